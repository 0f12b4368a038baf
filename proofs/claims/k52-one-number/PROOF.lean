import PyProof.Rows.All
import Wide.All
import OpenK.AllK
import Wide.FinOn
import HandS.ForMost
import HandS.Wide
import HandS.Style
import HandS.Deep
import KE.SortData
import KE.KSortAsk
import KE.LtSeq
import KE.SortCalls
import HandS.IsInst
import HandS.HeadHook1
import HandS.TupMul
import KE.DataCmp
import HandS.TupAny
import KE.KTupSum
import HandS.WideBits
import HandS.More
import HandS.FStr
import HandS.TryOnly
import HandS.Defaults
import KE.GoesMore
import HandS.OwnEq
import KE.KRevSl
import HandS.HeadEnd
import HandS.Head0
import HandS.Head1
import HandS.Head2
import HandS.HeadHook2
import HandS.HeadHook3
import HandS.HeadHook4
import PySem.Challenge.RW_timesagain_k52_one_number_told_by_two_as
set_option Elab.async false
set_option linter.all false
namespace Iv
open PySem

/-- data: tuples and lists are values; a list that may change stands in the store, at a place -/
inductive D where
  | non | bl (b : Bool) | int (i : Int) | str (x : Str) | tup (xs : List D) | lst (xs : List D) | ref (i : Nat)
  /-- what an object's entry in the store begins with: its class, its attributes' names -/
  | cl (x : Str) (ns : List Str)
  /-- a dict, of which nothing is known but that it is one -/
  | dct
  deriving Inhabited

mutual
def D.py : D → PyData
  | .non => .none
  | .bl b => .bool b
  | .int i => .int i
  | .str x => .str x
  | .tup xs => .tuple (D.pys xs)
  | .lst xs => .list (D.pys xs)
  | .ref _ => .none
  | .cl _ _ => .none
  | .dct => .none
def D.pys : List D → List PyData
  | [] => []
  | x :: xs => D.py x :: D.pys xs
end
mutual
/-- no place of the store within -/
def D.pure : D → Bool
  | .tup xs => D.pures xs
  | .lst xs => D.pures xs
  | .ref _ => false
  | .cl _ _ => false
  | .dct => false
  | _ => true
def D.pures : List D → Bool
  | [] => true
  | x :: xs => D.pure x && D.pures xs
end
mutual
/-- all places within stand below n -/
def D.under (n : Nat) : D → Bool
  | .tup xs => D.unders n xs
  | .lst xs => D.unders n xs
  | .ref i => decide (i < n)
  | _ => true
def D.unders (n : Nat) : List D → Bool
  | [] => true
  | x :: xs => D.under n x && D.unders n xs
end
/-- what == takes: no places, signs that are such, not too deep -/
def D.ok (d : D) : Bool := d.pure && d.py.canLay0 && decide (d.py.depth ≤ 190)
def D.eqv (a b : D) : Bool := PyData.eqv a.py b.py
/-- None, truths, integers, texts -/
def D.flat : D → Bool
  | .non => true
  | .bl _ => true
  | .int _ => true
  | .str _ => true
  | _ => false

abbrev Env := List (Option D)
abbrev Sto := List (Option (List D))

/-- a list at a place is seen as what it holds -/
def isObj : List D → Bool
  | .cl _ _ :: _ => true
  | _ => false
def see (S : Sto) : D → Option D
  | .ref i => match S[i]? with
    | some (some xs) => if isObj xs then none else some (.lst xs)
    | _ => none
  | d => some d

inductive BI where
  | len | int | abs | tuple | list | all | any | sum | max2 | str | repr | sorted | maxl
  deriving DecidableEq
inductive Ty where
  | int | bool | str | list | tuple | dict
  deriving DecidableEq
inductive ME where
  | append | pop | popAt | extend | index | join | lower | isalpha | isalnum | split
  deriving DecidableEq
inductive Tg where
  | n (i : Nat) | t (is : List Nat)
mutual
inductive E where
  | v (i : Nat)
  | frz (i : Nat)
  | frzD (i : Nat)
  | c (d : D)
  | g (x : Str) (d : D)
  | op (o : Operator) (a b : E)
  | neg (a : E)
  | cmp (o : CmpOp) (a b : E)
  | chain (o p : CmpOp) (a b c : E)
  | and (a b : E)
  | or (a b : E)
  | not (a : E)
  | ite (c a b : E)
  | tup (es : Es)
  | lst (es : Es)
  | new (es : Es)
  | ix (a i : E)
  | sl (a lo hi : E)
  | call (f : Nat) (es : Es)
  | callK (f : Nat) (es kes : Es) (pm : List Nat)
  | bi (b : BI) (es : Es)
  | mk (es : Es)
  | fmt (a : E)
  | js (es : Es)
  | sset (a : E)
  | comp (mt : Bool) (t : Tg) (it : E) (elt : E)
  | compI (mt : Bool) (t : Tg) (it : E) (cond elt : E)
  | comp2 (mt : Bool) (t : Tg) (it : E) (t2 : Tg) (it2 elt : E)
  | bits (a : E)
  | fld (x : Str) (o : E) (f : Str)
  | mko (x : Str) (f : Nat) (es : Es)
  | mcall (x m : Str) (f : Nat) (o : E) (es : Es)
  | meth (m : ME) (o : E) (es : Es)
  | isi (e : E) (tys : List Ty)
  | rng (a b : E)
  | zip (a b : E)
  | enum (a : E)
  | zipT (a b : E)
  | isC (a : E) (x : Str) (subs nos : List Str)
  | oeq (neg : Bool) (x : Str) (f : Nat) (a b : E)
  | rev (a : E)
  | newop (o : Operator) (a b : E)
  | zipG (a b : E)
  | compP (mt : Bool) (t : Tg) (it elt : E)
  | dct (kvs : List (Str × Str))
  | stp (a : E) (k : Nat)
inductive Es where
  | nil
  | cons (e : E) (es : Es)
  | star (e : E) (es : Es)
end
mutual
inductive St where
  | asg (t : Tg) (e : E)
  | par (is : List Nat) (es : Es)
  | put (o i e : E)
  | setf (x : Str) (o : E) (f : Str) (e : E)
  | ex (e : E)
  | ret (e : E)
  | ifs (c : E) (a b : Ss)
  | for (t : Tg) (it : E) (b : Ss)
  | forP (t : Tg) (it : E) (b : Ss)
  | wh (c : E) (b : Ss)
  | never
  | frz (i : Nat)
  | frzD (i : Nat)
  | pass
  | brk
  | cnt
inductive Ss where
  | nil
  | cons (s : St) (ss : Ss)
end

/-- texts one behind the other -/
def catS : Str → List Str → Str
  | acc, [] => acc
  | acc, y :: ys => catS (acc ++ y) ys
def small (n : Nat) : Bool := decide (n ≤ 100000)

/-- what a loop walks -/
def items : D → Option (List D)
  | .lst xs => some xs
  | .tup xs => some xs
  | .str x => some (x.cps.toList.map fun c => .str ⟨#[c]⟩)
  | _ => none

def ints? : List D → Option (List Int)
  | [] => some []
  | .int i :: r => (ints? r).map (i :: ·)
  | _ :: _ => none
def bls? : List D → Option (List Bool)
  | [] => some []
  | .bl b :: r => (bls? r).map (b :: ·)
  | _ :: _ => none
def strs? : List D → Option (List Str)
  | [] => some []
  | .str x :: r => (strs? r).map (x :: ·)
  | _ :: _ => none

/-- one behind the other, the store handed on -/
def mapS (f : D → Sto → Option (D × Sto)) : List D → Sto → Option (List D × Sto)
  | [], S => some ([], S)
  | x :: xs, S => match f x S with
    | none => none
    | some (y, S1) => match mapS f xs S1 with
      | none => none
      | some (ys, S2) => some (y :: ys, S2)
/-- all the way in, lists that will not change any more are seen as values -/
def deep : Nat → D → Sto → Option (D × Sto)
  | 0, _, _ => none
  | n + 1, .ref j, S => match S[j]? with
    | some (some xs) => if isObj xs then none else (match mapS (deep n) xs (S.set j none) with
      | some (ys, S1) => some (.lst ys, S1)
      | none => none)
    | _ => none
  | n + 1, .lst xs, S => match mapS (deep n) xs S with
    | some (ys, S1) => some (.lst ys, S1)
    | none => none
  | n + 1, .tup xs, S => match mapS (deep n) xs S with
    | some (ys, S1) => some (.tup ys, S1)
    | none => none
  | _ + 1, d, S => some (d, S)

/-- a op b -/
def opD (o : Operator) (x y : D) : Option D :=
  match o, x, y with
  | .Add, .int i, .int j => some (.int (i + j))
  | .Sub, .int i, .int j => some (.int (i - j))
  | .Mult, .int i, .int j => if (decide (i.natAbs < 2 ^ 63) || decide (j.natAbs < 2 ^ 63)) || (decide (i.natAbs < 2 ^ 400000) && decide (j.natAbs < 2 ^ 400000)) then some (.int (i * j)) else none
  | .FloorDiv, .int i, .int j => if decide (0 < j) && decide (j.natAbs < 2 ^ 8000) then some (.int (i / j)) else none
  | .Mod, .int i, .int j => if decide (0 < j) then some (.int (i % j)) else none
  | .Pow, .int i, .int j => if decide (0 ≤ j) && decide (j ≤ 1000) && decide (i.natAbs < 2 ^ 64) then some (.int (i ^ j.toNat)) else none
  | .Add, .str a, .str b => if small (a.length + b.length) then some (.str (a ++ b)) else none
  | .Add, .tup a, .tup b => if small (a.length + b.length) then some (.tup (a ++ b)) else none
  | .Add, .lst a, .lst b => if small (a.length + b.length) then some (.lst (a ++ b)) else none
  | .Mult, .tup a, .int j => if decide (0 < a.length) && decide (a.length ≤ 1000) && (decide (2 ≤ j) && decide (j ≤ 1000)) then some (.tup (List.replicate j.toNat a).flatten) else none
  | .Mult, .str a, .int j => if small (a.length * j.toNat) && (decide (0 < a.length) && (decide (2 ≤ j) && decide (j ≤ 1000))) then some (.str ⟨(List.replicate j.toNat a.cps).foldl (· ++ ·) #[]⟩) else none
  | .Mult, .lst a, .int j => if small (a.length * j.toNat) && (decide (-100000 ≤ j) && decide (j ≤ 100000)) then some (.lst (List.replicate j.toNat a).flatten) else none
  | _, _, _ => none

def D.isDct : D → Bool
  | .dct => true
  | _ => false
def D.isStr : D → Bool
  | .str _ => true
  | _ => false
def inFlat (x : D) (xs : List D) : Bool := xs.any fun y => D.eqv y x

def D.isSq : D → Bool
  | .tup _ => true
  | .lst _ => true
  | _ => false
/-- tuples and lists, in order -/
def ordD (r : PyData → PyData → Bool) (x y : D) : Option Bool :=
  if (x.ok && y.ok) && (PySem.W.alike x.py y.py && x.isSq) then some (r x.py y.py) else none
/-- a op b, compared -/
def cmpD (o : CmpOp) (x y : D) : Option Bool :=
  match o with
  | .Eq => match x, y with
    | .int i, .int j => some (decide (i = j))
    | .str a, .str b => some (decide (a = b))
    | _, _ => if x.ok && y.ok then some (D.eqv x y) else none
  | .NotEq => match x, y with
    | .int i, .int j => some (!decide (i = j))
    | .str a, .str b => some (!decide (a = b))
    | _, _ => if x.ok && y.ok then some (!D.eqv x y) else none
  | .Lt => match x, y with | .int i, .int j => some (decide (i < j)) | _, _ => ordD (fun a b => PySem.W.dataLt a b) x y
  | .LtE => match x, y with | .int i, .int j => some (decide (i ≤ j)) | _, _ => ordD (fun a b => !PySem.W.dataLt b a) x y
  | .Gt => match x, y with | .int i, .int j => some (decide (j < i)) | _, _ => ordD (fun a b => PySem.W.dataLt b a) x y
  | .GtE => match x, y with | .int i, .int j => some (decide (j ≤ i)) | _, _ => ordD (fun a b => !PySem.W.dataLt a b) x y
  | .In => match y with
    | .lst ys => if x.flat && ys.all D.flat then some (inFlat x ys) else none
    | .tup ys => if x.flat && ys.all D.flat then some (inFlat x ys) else if x.ok && (D.tup ys).ok then some (inFlat x ys) else if x.isDct && ys.all D.isStr then some false else none
    | .str z => match x with | .str c => if c.length == 1 then some (decide (c.cps.getD 0 0 ∈ z.cps.toList)) else none | _ => none
    | _ => none
  | .NotIn => match y with
    | .lst ys => if x.flat && ys.all D.flat then some (!inFlat x ys) else none
    | .tup ys => if x.flat && ys.all D.flat then some (!inFlat x ys) else if x.ok && (D.tup ys).ok then some (!inFlat x ys) else if x.isDct && ys.all D.isStr then some true else none
    | .str z => match x with | .str c => if c.length == 1 then some (!decide (c.cps.getD 0 0 ∈ z.cps.toList)) else none | _ => none
    | _ => none
  | .Is => match x, y with
    | .bl a, .bl b => some (decide (a = b))
    | .non, .non => some true
    | _, .non => some false
    | _, _ => none
  | .IsNot => match x, y with
    | .bl a, .bl b => some (!decide (a = b))
    | .non, .non => some false
    | _, .non => some true
    | _, _ => none

/-- x[i] -/
def ixD (x i : D) : Option D :=
  match x, i with
  | .lst xs, .int k => L2.atI xs k
  | .tup xs, .int k => L2.atI xs k
  | .str z, .int k => if small z.length then (L2.atI z.cps.toList k).map fun c => .str ⟨#[c]⟩ else none
  | _, _ => none

def cutD (xs : List D) (lo hi : Option Int) : List D := (xs.drop (HT.sIx xs.length 0 lo)).take (HT.sIx xs.length xs.length hi - HT.sIx xs.length 0 lo)
def part? : D → Option (Option Int)
  | .non => some none
  | .int i => some (some i)
  | _ => none
/-- xs[::k] -/
def stpD {α : Type} (k : Nat) (xs : List α) : List α := (PySem.sliceRange (PySem.sliceBounds none none (some (k : Int)) xs.length).1 (PySem.sliceBounds none none (some (k : Int)) xs.length).2.1 (PySem.sliceBounds none none (some (k : Int)) xs.length).2.2).filterMap (xs[·]?)
/-- x[lo:hi] -/
def slD (x : D) (lo hi : Option Int) : Option D :=
  match x with
  | .lst xs => some (.lst (cutD xs lo hi))
  | .tup xs => some (.tup (cutD xs lo hi))
  | .str z => if small z.length then some (.str (L2.cutS z lo hi)) else none
  | _ => none

def tyOf : D → Option Ty
  | .bl _ => some .bool
  | .int _ => some .int
  | .str _ => some .str
  | .lst _ => some .list
  | .tup _ => some .tuple
  | .ref _ => some .list
  | .cl _ _ => none
  | .dct => some .dict
  | .non => none
def isTy (d : D) (t : Ty) : Bool := match tyOf d with
  | some u => u == t || (u == .bool && t == .int)
  | none => false

/-- what repr takes -/
def D.shows (d : D) : Bool := d.pure && d.py.showable && d.py.canLay0 && decide (d.py.depth ≤ 60) && decide (d.py.shown.length ≤ 100000)
/-- what sorted takes: data that can be compared, all texts or numbers, or tuples, the first of them empty -/
def allAlike (xs : List D) : Bool := xs.all fun a => xs.all fun b => PySem.W.alike a.py b.py
def D.isTup : D → Bool
  | .tup _ => true
  | _ => false
def D.isAtom : D → Bool
  | .int _ => true
  | .str _ => true
  | _ => false
def headNil : List D → Bool
  | .tup [] :: _ => true
  | _ => false
def D.isTup1 : D → Bool
  | .tup (_ :: _) => true
  | _ => false
def sortOk (xs : List D) : Bool := small xs.length && D.pures xs && allAlike xs && (xs.all fun a => decide (a.py.depth ≤ 100)) && ((headNil xs && xs.all D.isTup) || (xs.all D.isAtom || xs.all D.isTup1))
def sortD (xs : List D) : List D := xs.mergeSort fun a b => !PySem.W.dataLt b.py a.py
/-- those that are new, in the order in which they come -/
def fresh1 (f : List Str) : List Str → List Str
  | [] => f
  | x :: l => if x ∈ f then fresh1 f l else fresh1 (f ++ [x]) l
/-- texts in order -/
def sortS (l : List Str) : List Str := l.mergeSort fun a b => !PySem.W.dataLt (.str b) (.str a)
/-- the builtins -/
def biD (b : BI) (xs : List D) : Option D :=
  match b, xs with
  | .len, [.lst xs] => some (.int xs.length)
  | .len, [.tup xs] => some (.int xs.length)
  | .len, [.str z] => if small z.length then some (.int z.length) else none
  | .int, [.int i] => some (.int i)
  | .int, [.bl b] => some (.int (if b then 1 else 0))
  | .abs, [.int i] => some (.int (if i < 0 then -i else i))
  | .tuple, [.lst xs] => some (.tup xs)
  | .tuple, [.tup xs] => some (.tup xs)
  | .list, [.lst xs] => some (.lst xs)
  | .list, [.tup xs] => some (.lst xs)
  | .list, [.str z] => if small z.length then some (.lst (z.cps.toList.map fun c => .str ⟨#[c]⟩)) else none
  | .all, [.lst xs] => (bls? xs).map fun bs => .bl (bs.all id)
  | .any, [.lst xs] => (bls? xs).map fun bs => .bl (bs.any id)
  | .sum, [.lst xs] => (ints? xs).map fun ns => .int ns.sum
  | .sum, [.tup xs] => (ints? xs).map fun ns => .int ns.sum
  | .max2, [.int i, .int j] => some (.int (if j > i then j else i))
  | .str, [.int i] => if decide (i.natAbs < 2 ^ 1900) then some (.str (toString i)) else none
  | .repr, [.lst xs] => if D.shows (.lst xs) then some (.str ((D.lst xs).py.shown)) else none
  | .repr, [.tup xs] => if D.shows (.tup xs) then some (.str ((D.tup xs).py.shown)) else none
  | .repr, [.int i] => if decide (i.natAbs < 2 ^ 1900) then some (.str ((D.int i).py.shown)) else none
  | .maxl, [.lst xs] => match ints? xs with
    | some (n :: ns) => some (.int (ns.foldl (fun a b => if b > a then b else a) n))
    | _ => none
  | .repr, [.bl b] => some (.str ((D.bl b).py.shown))
  | .repr, [.str z] => if small ((D.str z).py.shown.length) then some (.str ((D.str z).py.shown)) else none
  | .sorted, [.lst xs] => if sortOk xs then some (.lst (sortD xs)) else none
  | .sorted, [.tup xs] => match strs? xs with
    | some ss => if decide (ss.length ≤ 1000) then some (.lst ((sortS ss).map D.str)) else none
    | none => none
  | _, _ => none

def setT : Tg → D → Env → Option Env
  | .n i, d, ρ => some (ρ.set i (some d))
  | .t is, .tup ds, ρ => if ds.length = is.length then some ((is.zip ds).foldl (fun r p => r.set p.1 (some p.2)) ρ) else none
  | .t is, .lst ds, ρ => if ds.length = is.length then some ((is.zip ds).foldl (fun r p => r.set p.1 (some p.2)) ρ) else none
  | _, _, _ => none
def wipeT : Tg → Env → Env
  | .n i, ρ => ρ.set i none
  | .t is, ρ => is.foldr (fun i r => r.set i none) ρ

def isNonE : E → Bool
  | .c .non => true
  | _ => false
def isIntD : D → Bool
  | .int _ => true
  | _ => false
/-- a call of a def, by its number: what it hands back, the store behind it -/
abbrev CF := Nat → List D → Sto → Option (D × Sto)

/-- an object's attributes -/
def putP (f : Str) (d : D) : List (Str × D) → List (Str × D)
  | [] => [(f, d)]
  | (g, x) :: r => if g = f then (g, d) :: r else (g, x) :: putP f d r
def fldD (x f : Str) : List D → Option D
  | .cl y ns :: fs => if y = x then (ns.zip fs).lookup f else none
  | _ => none
def putD (y f : Str) (d : D) : List D → Option (List D)
  | .cl x ns :: fs => if decide (x = y) && decide (ns.length ≤ 100) then some (.cl x ((putP f d (ns.zip fs)).map (·.1)) :: (putP f d (ns.zip fs)).map (·.2)) else none
  | _ => none
/-- is it of a class, told those below it and others -/
def isCD (S : Sto) (d : D) (subs nos : List Str) : Option Bool := match d with
  | .ref i => match S[i]? with
    | some (some (.cl y _ :: _)) => if subs.contains y then some true else if nos.contains y then some false else none
    | some (some _) => some false
    | _ => none
  | .cl _ _ => none
  | _ => some false
def isCl (S : Sto) (i : Nat) (x : Str) : Bool := match S[i]? with
  | some (some (.cl y _ :: _)) => decide (y = x)
  | _ => false
def seqD : D → Option (List D)
  | .lst xs => some xs
  | .tup xs => some xs
  | _ => none
/-- arguments in the parameters' order -/
def prm {α : Type} (pm : List Nat) (xs : List α) : List α := pm.filterMap fun i => xs[i]?
/-- how many, where no star stands -/
def plainEs : Es → Option Nat
  | .nil => some 0
  | .cons _ es => (plainEs es).map (· + 1)
  | .star _ _ => none
/-- a comprehension's turns -/
def compRun (f : D → Sto → Option (Option D × Sto)) : List D → List D → Sto → Option (List D × Sto)
  | [], acc, S => some (acc, S)
  | d :: ds, acc, S => match f d S with
    | none => none
    | some (none, S1) => compRun f ds acc S1
    | some (some y, S1) => if small (acc.length + 1) then compRun f ds (acc ++ [y]) S1 else none

/-- what stands in a place at a spot -/
def look (S : Sto) (j k : Nat) : Option (Option D) := match S[j]? with
  | some (some ys) => if isObj ys then none else some ys[k]?
  | _ => none
/-- a comprehension's turns over a place -/
def compPRun (f : D → Sto → Option (Option D × Sto)) (j : Nat) : Nat → Nat → List D → Sto → Option (List D × Sto)
  | 0, _, _, _ => none
  | n + 1, k, acc, S => match look S j k with
    | none => none
    | some none => some (acc, S)
    | some (some d) => match f d S with
      | none => none
      | some (none, S1) => compPRun f j n (k + 1) acc S1
      | some (some y, S1) => if small (acc.length + 1) then compPRun f j n (k + 1) (acc ++ [y]) S1 else none

/-- two fors -/
def comp2Run (g : D → Sto → Option (List D × (D → Sto → Option (Option D × Sto)) × Sto)) : List D → List D → Sto → Option (List D × Sto)
  | [], acc, S => some (acc, S)
  | d :: ds, acc, S => match g d S with
    | none => none
    | some (ys, f, S1) => match compRun f ys acc S1 with
      | none => none
      | some (acc2, S2) => comp2Run g ds acc2 S2

/-- a new list: a value, or a place of the store -/
def mkList (mt : Bool) (xs : List D) (S : Sto) : Option (D × Sto) :=
  if mt then some (.ref S.length, S ++ [some xs]) else some (.lst xs, S)

/-- methods: the receiver, the arguments, the store -/
def meD (m : ME) (o : D) (xs : List D) (S : Sto) : Option (D × Sto) :=
  match m, o, xs with
  | .append, .ref i, [x] => match S[i]? with
    | some (some ys) => if !isObj ys && small (ys.length + 1) then some (.non, S.set i (some (ys ++ [x]))) else none
    | _ => none
  | .extend, .ref i, [.lst x] => match S[i]? with
    | some (some ys) => if !isObj ys && small (ys.length + x.length) then some (.non, S.set i (some (ys ++ x))) else none
    | _ => none
  | .pop, .ref i, [] => match S[i]? with
    | some (some ys) => if isObj ys then none else (match ys[ys.length - 1]? with
      | some y => some (y, S.set i (some ys.dropLast))
      | none => none)
    | _ => none
  | .popAt, .ref i, [.int k] => match S[i]? with
    | some (some ys) => match L2.ixN ys.length k with
      | some j => if !isObj ys && small ys.length then (match ys[j]? with
        | some y => some (y, S.set i (some (ys.eraseIdx j)))
        | none => none) else none
      | none => none
    | _ => none
  | .index, .lst ys, [x] => if x.flat && ys.all D.flat then (match ys.findIdx? fun y => D.eqv y x with
      | some j => some (.int (j : Nat), S)
      | none => none) else none
  | .join, .str a, [.lst ys] => match strs? ys with
    | some ss => if small ((ss.map (·.length)).sum + ss.length * a.length) then some (.str (Txt.join a ss), S) else none
    | none => none
  | .split, .str a, [.str b] => if small a.length && !(b.length == 0) then some (.lst ((Txt.split a b).map D.str), S) else none
  | .lower, .str a, [] => if small a.length then some (.str (Txt.lower a), S) else none
  | .isalpha, .str a, [] => some (.bl (Txt.isalpha a), S)
  | .isalnum, .str a, [] => some (.bl (Txt.isalnum a), S)
  | _, _, _ => none

def seeAll (S : Sto) : List D → Option (List D)
  | [] => some []
  | x :: xs => match see S x, seeAll S xs with
    | some y, some ys => some (y :: ys)
    | _, _ => none

mutual
def ev (F : CF) : E → Env → Sto → Option (D × Sto)
  | .v i, ρ, S => match ρ[i]? with
    | some (some d) => some (d, S)
    | _ => none
  | .frz i, ρ, S => match ρ[i]? with
    | some (some (.ref j)) => match S[j]? with
      | some (some xs) => if isObj xs then none else some (.lst xs, S.set j none)
      | _ => none
    | _ => none
  | .frzD i, ρ, S => match ρ[i]? with
    | some (some d) => deep 1000 d S
    | _ => none
  | .c d, _, S => some (d, S)
  | .g _ d, _, S => some (d, S)
  | .op o a b, ρ, S => match ev F a ρ S with
    | none => none
    | some (x, S1) => match ev F b ρ S1 with
      | none => none
      | some (y, S2) => match see S2 x, see S2 y with
        | some x', some y' => match opD o x' y' with
          | some z => some (z, S2)
          | none => none
        | _, _ => none
  | .neg a, ρ, S => match ev F a ρ S with
    | some (.int i, S1) => some (.int (-i), S1)
    | _ => none
  | .cmp o a b, ρ, S => match ev F a ρ S with
    | none => none
    | some (x, S1) => match ev F b ρ S1 with
      | none => none
      | some (y, S2) => match see S2 x, see S2 y with
        | some x', some y' => match cmpD o x' y' with
          | some z => some (.bl z, S2)
          | none => none
        | _, _ => none
  | .chain o p a b c, ρ, S => match ev F a ρ S with
    | none => none
    | some (x, S1) => match ev F b ρ S1 with
      | none => none
      | some (y, S2) => match see S2 x, see S2 y with
        | some x', some y' => match cmpD o x' y' with
          | none => none
          | some false => some (.bl false, S2)
          | some true => match ev F c ρ S2 with
            | none => none
            | some (z, S3) => match see S3 y, see S3 z with
              | some y2, some z2 => match cmpD p y2 z2 with
                | some r => some (.bl r, S3)
                | none => none
              | _, _ => none
        | _, _ => none
  | .and a b, ρ, S => match ev F a ρ S with
    | some (.bl true, S1) => ev F b ρ S1
    | some (.bl false, S1) => some (.bl false, S1)
    | _ => none
  | .or a b, ρ, S => match ev F a ρ S with
    | some (.bl true, S1) => some (.bl true, S1)
    | some (.bl false, S1) => ev F b ρ S1
    | _ => none
  | .not a, ρ, S => match ev F a ρ S with
    | some (.bl b, S1) => some (.bl (!b), S1)
    | _ => none
  | .ite c a b, ρ, S => match ev F c ρ S with
    | some (.bl true, S1) => ev F a ρ S1
    | some (.bl false, S1) => ev F b ρ S1
    | _ => none
  | .tup es, ρ, S => match evs F es ρ S with
    | some (xs, S1) => if small xs.length then some (.tup xs, S1) else none
    | none => none
  | .lst es, ρ, S => match evs F es ρ S with
    | some (xs, S1) => if small xs.length then some (.lst xs, S1) else none
    | none => none
  | .new es, ρ, S => match evs F es ρ S with
    | some (xs, S1) => if small xs.length then mkList true xs S1 else none
    | none => none
  | .ix a i, ρ, S => match ev F a ρ S with
    | none => none
    | some (x, S1) => match ev F i ρ S1 with
      | none => none
      | some (y, S2) => match see S2 x with
        | none => none
        | some x' => match ixD x' y with
          | some z => some (z, S2)
          | none => none
  | .sl a lo hi, ρ, S => match ev F a ρ S with
    | none => none
    | some (x, S1) => match ev F lo ρ S1 with
      | none => none
      | some (l, S2) => match ev F hi ρ S2 with
        | none => none
        | some (h, S3) => match see S3 x, part? l, part? h with
          | some x', some l', some h' => if (isNonE lo || isIntD l) && (isNonE hi || isIntD h) then (match slD x' l' h' with
            | some z => some (z, S3)
            | none => none) else none
          | _, _, _ => none
  | .call f es, ρ, S => match evs F es ρ S with
    | some (xs, S1) => F f xs S1
    | none => none
  | .callK f es kes pm, ρ, S => match evs F es ρ S with
    | none => none
    | some (xs, S1) => match evs F kes ρ S1 with
      | none => none
      | some (ys, S2) => F f (prm pm (xs ++ ys)) S2
  | .bi b es, ρ, S => match evs F es ρ S with
    | some (xs, S1) => match seeAll S1 xs with
      | some ys => match biD b ys with
        | some z => some (z, S1)
        | none => none
      | none => none
    | none => none
  | .fmt a, ρ, S => match ev F a ρ S with
    | some (.str y, S1) => if small y.length then some (.str y, S1) else none
    | some (.int i, S1) => if decide (i.natAbs < 2 ^ 1900) then some (.str (toString i), S1) else none
    | _ => none
  | .js es, ρ, S => match evs F es ρ S with
    | some (xs, S1) => match strs? xs with
      | some ss => if small ((ss.map (·.length)).sum) then some (.str (catS Str.empty ss), S1) else none
      | none => none
    | none => none
  | .sset a, ρ, S => match ev F a ρ S with
    | none => none
    | some (x, S1) => match see S1 x with
      | some (.lst xs) => (match strs? xs with
        | some ss => if decide (ss.length ≤ 1000) then some (.lst ((sortS (fresh1 [] ss)).map D.str), S1) else none
        | none => none)
      | _ => none
  | .mk es, ρ, S => match evs F es ρ S with
    | some (xs, S1) => match seeAll S1 xs with
      | some ys => match biD .list ys with
        | some (.lst zs) => mkList true zs S1
        | _ => none
      | none => none
    | none => none
  | .comp mt t it elt, ρ, S => match ev F it ρ S with
    | none => none
    | some (x, S1) => match items x with
      | none => none
      | some xs => match compRun (fun d S => match setT t d (wipeT t ρ) with
          | none => none
          | some ρ' => match ev F elt ρ' S with
            | none => none
            | some (y, S') => some (some y, S')) xs [] S1 with
        | none => none
        | some (ys, S2) => mkList mt ys S2
  | .compI mt t it cond elt, ρ, S => match ev F it ρ S with
    | none => none
    | some (x, S1) => match items x with
      | none => none
      | some xs => match compRun (fun d S => match setT t d (wipeT t ρ) with
          | none => none
          | some ρ' => match ev F cond ρ' S with
            | some (.bl true, S1) => (match ev F elt ρ' S1 with
              | none => none
              | some (y, S') => some (some y, S'))
            | some (.bl false, S1) => some (none, S1)
            | _ => none) xs [] S1 with
        | none => none
        | some (ys, S2) => mkList mt ys S2
  | .comp2 mt t it t2 it2 elt, ρ, S => match ev F it ρ S with
    | none => none
    | some (x, S1) => match items x with
      | none => none
      | some xs => match comp2Run (fun d S => match setT t d (wipeT t (wipeT t2 ρ)) with
          | none => none
          | some ρ' => match ev F it2 ρ' S with
            | none => none
            | some (y, S') => match items y with
              | none => none
              | some ys => some (ys, (fun e S => match setT t2 e (wipeT t2 ρ') with
                | none => none
                | some ρ2 => match ev F elt ρ2 S with
                  | none => none
                  | some (z, S') => some (some z, S')), S')) xs [] S1 with
        | none => none
        | some (ys, S2) => mkList mt ys S2
  | .fld x o f, ρ, S => match ev F o ρ S with
    | some (.ref i, S1) => match S1[i]? with
      | some (some xs) => match fldD x f xs with
        | some d => some (d, S1)
        | none => none
      | _ => none
    | _ => none
  | .mko x f es, ρ, S => match evs F es ρ S with
    | none => none
    | some (xs, S1) => match F f (.ref S1.length :: xs) (S1 ++ [some [.cl x []]]) with
      | some (.non, S2) => some (.ref S1.length, S2)
      | _ => none
  | .mcall x m f o es, ρ, S => match ev F o ρ S with
    | some (.ref i, S1) => match S1[i]? with
      | some (some (.cl y ns :: _)) => if decide (y = x) && !ns.contains m then (match evs F es ρ S1 with
        | none => none
        | some (xs, S2) => F f (.ref i :: xs) S2) else none
      | _ => none
    | _ => none
  | .isC a _ subs nos, ρ, S => match ev F a ρ S with
    | none => none
    | some (d, S1) => match isCD S1 d subs nos with
      | some b => some (.bl b, S1)
      | none => none
  | .oeq neg x f a b, ρ, S => match ev F a ρ S with
    | some (.ref i, S1) => (match ev F b ρ S1 with
      | some (.ref j, S2) => if isCl S2 i x && isCl S2 j x then (match F f [.ref i, .ref j] S2 with
        | some (.bl r, S3) => some (.bl (r != neg), S3)
        | _ => none) else none
      | _ => none)
    | _ => none
  | .rev a, ρ, S => match ev F a ρ S with
    | none => none
    | some (x, S1) => match see S1 x with
      | some (.lst xs) => if small xs.length then some (.lst xs.reverse, S1) else none
      | _ => none
  | .newop o a b, ρ, S => match ev F a ρ S with
    | none => none
    | some (x, S1) => match ev F b ρ S1 with
      | none => none
      | some (y, S2) => match see S2 x, see S2 y with
        | some x', some y' => match opD o x' y' with
          | some (.lst zs) => mkList true zs S2
          | _ => none
        | _, _ => none
  | .zipG a b, ρ, S => match ev F a ρ S with
    | none => none
    | some (x, S1) => match ev F b ρ S1 with
      | none => none
      | some (y, S2) => match seqD x, seqD y with
        | some xs, some ys => some (.lst ((xs.zip ys).map fun p => .tup [p.1, p.2]), S2)
        | _, _ => none
  | .compP mt t it elt, ρ, S => match ev F it ρ S with
    | some (.ref j, S1) => (match compPRun (fun d S => match setT t d (wipeT t ρ) with
          | none => none
          | some ρ' => match ev F elt ρ' S with
            | none => none
            | some (y, S') => some (some y, S')) j 100001 0 [] S1 with
        | none => none
        | some (ys, S2) => mkList mt ys S2)
    | some (x, S1) => (match items x with
      | none => none
      | some xs => match compRun (fun d S => match setT t d (wipeT t ρ) with
          | none => none
          | some ρ' => match ev F elt ρ' S with
            | none => none
            | some (y, S') => some (some y, S')) xs [] S1 with
        | none => none
        | some (ys, S2) => mkList mt ys S2)
    | none => none
  | .dct _, _, S => some (.dct, S)
  | .stp a k, ρ, S => match ev F a ρ S with
    | none => none
    | some (x, S1) => match see S1 x with
      | some (.lst xs) => if decide (0 < k) && small xs.length then some (.lst (stpD k xs), S1) else none
      | _ => none
  | .bits a, ρ, S => match ev F a ρ S with
    | some (.int i, S1) => some (.int (Builtin.Int.intBits i : Nat), S1)
    | _ => none
  | .meth m o es, ρ, S => match ev F o ρ S with
    | none => none
    | some (x, S1) => if (see S1 x).isSome then (match evs F es ρ S1 with
      | none => none
      | some (xs, S2) => meD m x xs S2) else none
  | .isi e tys, ρ, S => match ev F e ρ S with
    | some (x, S1) => match see S1 x with
      | some x' => some (.bl (tys.any (isTy x')), S1)
      | none => none
    | none => none
  | .rng a b, ρ, S => match ev F a ρ S with
    | some (.int i, S1) => match ev F b ρ S1 with
      | some (.int j, S2) => if decide (-(2 ^ 62) ≤ i) && decide (i < 2 ^ 62) && decide (-(2 ^ 62) ≤ j) && decide (j < 2 ^ 62) then
          some (.lst ((List.range (j - i).toNat).map fun (k : Nat) => .int (i + k)), S2) else none
      | _ => none
    | _ => none
  | .zip a b, ρ, S => match ev F a ρ S with
    | some (.lst xs, S1) => match ev F b ρ S1 with
      | some (.lst ys, S2) => if xs.length = ys.length then some (.lst ((xs.zip ys).map fun p => .tup [p.1, p.2]), S2) else none
      | _ => none
    | _ => none
  | .zipT a b, ρ, S => match ev F a ρ S with
    | some (.tup xs, S1) => match ev F b ρ S1 with
      | some (.lst ys, S2) => if xs.length = ys.length then some (.lst ((xs.zip ys).map fun p => .tup [p.1, p.2]), S2) else none
      | _ => none
    | _ => none
  | .enum a, ρ, S => match ev F a ρ S with
    | some (.lst xs, S1) => some (.lst (((List.range xs.length).zip xs).map fun p => .tup [.int (p.1 : Nat), p.2]), S1)
    | _ => none
def evs (F : CF) : Es → Env → Sto → Option (List D × Sto)
  | .nil, _, S => some ([], S)
  | .cons e es, ρ, S => match ev F e ρ S with
    | none => none
    | some (x, S1) => match evs F es ρ S1 with
      | none => none
      | some (xs, S2) => some (x :: xs, S2)
  | .star e es, ρ, S => match ev F e ρ S with
    | none => none
    | some (x, S1) => match see S1 x with
      | some (.lst ys) => (match evs F es ρ S1 with
        | none => none
        | some (xs, S2) => some (ys ++ xs, S2))
      | some (.tup ys) => (match evs F es ρ S1 with
        | none => none
        | some (xs, S2) => some (ys ++ xs, S2))
      | _ => none
end

inductive Out where
  | nx (ρ : Env) | rt (d : D) | bk (ρ : Env) | ct (ρ : Env)

def forRun (t : Tg) (body : Env → Sto → Option (Out × Sto)) : List D → Env → Sto → Option (Out × Sto)
  | [], ρ, S => some (.nx ρ, S)
  | d :: ds, ρ, S => match setT t d ρ with
    | none => none
    | some ρ1 => match body ρ1 S with
      | none => none
      | some (.nx ρ2, S1) => forRun t body ds ρ2 S1
      | some (.ct ρ2, S1) => forRun t body ds ρ2 S1
      | some (.bk ρ2, S1) => some (.nx ρ2, S1)
      | some (.rt d, S1) => some (.rt d, S1)
/-- over a place, as it stands at each turn -/
def forPRun (t : Tg) (body : Env → Sto → Option (Out × Sto)) (j : Nat) : Nat → Nat → Env → Sto → Option (Out × Sto)
  | 0, _, _, _ => none
  | n + 1, k, ρ, S => match look S j k with
    | none => none
    | some none => some (.nx ρ, S)
    | some (some d) => match setT t d ρ with
      | none => none
      | some ρ1 => match body ρ1 S with
        | none => none
        | some (.nx ρ2, S1) => forPRun t body j n (k + 1) ρ2 S1
        | some (.ct ρ2, S1) => forPRun t body j n (k + 1) ρ2 S1
        | some (.bk ρ2, S1) => some (.nx ρ2, S1)
        | some (.rt d, S1) => some (.rt d, S1)
def whRun (test : Env → Sto → Option (D × Sto)) (body : Env → Sto → Option (Out × Sto)) : Nat → Env → Sto → Option (Out × Sto)
  | 0, _, _ => none
  | n + 1, ρ, S => match test ρ S with
    | some (.bl false, S1) => some (.nx ρ, S1)
    | some (.bl true, S1) => (match body ρ S1 with
      | none => none
      | some (.nx ρ2, S2) => whRun test body n ρ2 S2
      | some (.ct ρ2, S2) => whRun test body n ρ2 S2
      | some (.bk ρ2, S2) => some (.nx ρ2, S2)
      | some (.rt d, S2) => some (.rt d, S2))
    | _ => none

mutual
def ex (F : CF) (w : Nat) : St → Env → Sto → Option (Out × Sto)
  | .asg t e, ρ, S => match ev F e ρ S with
    | none => none
    | some (x, S1) => match setT t x ρ with
      | none => none
      | some ρ' => some (.nx ρ', S1)
  | .par is es, ρ, S => match evs F es ρ S with
    | none => none
    | some (xs, S1) => if xs.length = is.length then some (.nx ((is.zip xs).foldl (fun r p => r.set p.1 (some p.2)) ρ), S1) else none
  | .put o i e, ρ, S => match ev F e ρ S with
    | none => none
    | some (x, S1) => match ev F o ρ S1 with
      | some (.ref l, S2) => (match ev F i ρ S2 with
        | some (.int k, S3) => (match S3[l]? with
          | some (some xs) => (match L2.ixN xs.length k with
            | some j => if isObj xs then none else some (.nx ρ, S3.set l (some (xs.set j x)))
            | none => none)
          | _ => none)
        | _ => none)
      | _ => none
  | .setf z o f e, ρ, S => match ev F e ρ S with
    | none => none
    | some (x, S1) => match ev F o ρ S1 with
      | some (.ref i, S2) => (match S2[i]? with
        | some (some xs) => (match putD z f x xs with
          | some ys => some (.nx ρ, S2.set i (some ys))
          | none => none)
        | _ => none)
      | _ => none
  | .ex e, ρ, S => match ev F e ρ S with
    | none => none
    | some (_, S1) => some (.nx ρ, S1)
  | .ret e, ρ, S => match ev F e ρ S with
    | none => none
    | some (x, S1) => some (.rt x, S1)
  | .ifs c a b, ρ, S => match ev F c ρ S with
    | some (.bl true, S1) => exs F w a ρ S1
    | some (.bl false, S1) => exs F w b ρ S1
    | _ => none
  | .for t it b, ρ, S => match ev F it ρ S with
    | none => none
    | some (x, S1) => match items x with
      | none => none
      | some xs => forRun t (fun ρ S => exs F w b ρ S) xs ρ S1
  | .forP t it b, ρ, S => match ev F it ρ S with
    | some (.ref j, S1) => forPRun t (fun ρ S => exs F w b ρ S) j w 0 ρ S1
    | some (x, S1) => (match items x with
      | none => none
      | some xs => forRun t (fun ρ S => exs F w b ρ S) xs ρ S1)
    | none => none
  | .wh c b, ρ, S => whRun (fun ρ S => ev F c ρ S) (fun ρ S => exs F w b ρ S) w ρ S
  | .never, _, _ => none
  | .frz i, ρ, S => match ρ[i]? with
    | some (some (.ref j)) => match S[j]? with
      | some (some xs) => if isObj xs then none else some (.nx (ρ.set i (some (.lst xs))), S.set j none)
      | _ => none
    | _ => none
  | .frzD i, ρ, S => match ρ[i]? with
    | some (some d) => (match deep 1000 d S with
      | some (d', S1) => some (.nx (ρ.set i (some d')), S1)
      | none => none)
    | _ => none
  | .pass, ρ, S => some (.nx ρ, S)
  | .brk, ρ, S => some (.bk ρ, S)
  | .cnt, ρ, S => some (.ct ρ, S)
def exs (F : CF) (w : Nat) : Ss → Env → Sto → Option (Out × Sto)
  | .nil, ρ, S => some (.nx ρ, S)
  | .cons s ss, ρ, S => match ex F w s ρ S with
    | none => none
    | some (.nx ρ', S1) => exs F w ss ρ' S1
    | some o => some o
end

/-- a def: how many parameters, how many slots, its body -/
structure Fn where
  ar : Nat
  sl : Nat
  body : Ss
/-- behind a def: places that it made are forgotten, if nothing that goes on speaks of them -/
def closedS (n : Nat) (S : Sto) : Bool := S.all fun o => match o with
  | some xs => D.unders n xs
  | none => true
def leave (n : Nat) (d : D) (S : Sto) : Sto :=
  if (D.pure d || D.under 0 d) && closedS n (S.take n) then S.take n else S
/-- a number beyond the defs' calls the def as many numbers below it, one level deeper: what makes an object does so with its __init__ -/
def run (T : List Fn) (w : Nat) : Nat → CF
  | 0 => fun _ _ _ => none
  | n + 1 => fun f ds S => match T[f]? with
    | none => run T w n (f - T.length) ds S
    | some fn => if ds.length = fn.ar then (match exs (run T w n) w fn.body (ds.map some ++ List.replicate (fn.sl - fn.ar) none) S with
        | some (.rt d, S1) => some (d, leave S.length d S1)
        | some (.nx _, S1) => some (.non, leave S.length .non S1)
        | _ => none) else none
end Iv

set_option Elab.async false
set_option linter.all false
set_option maxRecDepth 100000
set_option maxHeartbeats 4000000
namespace Iv
open PySem PySem.W PySem.Calls PyProof.Rows PySem.SeqAt
variable {prog : Program} {w : World} {A : Around} {E : Value → Shared → Prop} {s : Shared}
theorem tup_lt_call {Q : Value → Shared → Prop} {l b : Addr} {vs ws : Array Value} {e r : Nat → Bool} (hl : s.heap.IsTuple l vs) (hb : s.heap.IsTuple b ws)
    (he : ∀ j (h1 : j < vs.size) (h2 : j < ws.size), EqAt A.in1 s vs[j] ws[j] (e j)) (hr : ∀ j (h1 : j < vs.size) (h2 : j < ws.size), e j = false → RcLt A.in1 s vs[j] ws[j] (r j))
    (h : Q (.bool (firstLt e r (decide (vs.size < ws.size)) (List.range (min vs.size ws.size)))) s) : wpAny (model prog w) A (call (.builtin "tuple.__lt__") [.ref l, .ref b]) Q E s := by
  obtain ⟨⟨c1, d1, da1, s1⟩, o1, k1, m1, e1⟩ := id hl
  obtain ⟨⟨c2, d2, da2, s2⟩, o2, k2, m2, e2⟩ := id hb
  simp only at k1 e1 k2 e2
  subst k1 e1 k2 e2
  exact call_meets F.slot_tuple_lt ⟨_, o1, rfl⟩ F.entry_tuple_lt (F.args_tuple_lt_2 _ _) (tuple_ltAt l b vs ws m1 m2 d1 d2 s1 s2 e r)
    ⟨o1, o2, he, hr, h⟩
theorem oneLt_tup {xs ys : List PyData} {a b : Value} {as bs : List Addr} {Q : Bool → Shared → Prop} (ra : Reads s.heap a (.tuple xs) as) (rb : Reads s.heap b (.tuple ys) bs) (h : alike (.tuple xs) (.tuple ys) = true)
    (hu : A.units + min (PyData.tuple xs).depth (PyData.tuple ys).depth < cLine) (hq : Q (dataLt (.tuple xs) (.tuple ys)) s) : wpAny (model prog w) A (oneLt' true a b) Q E s := by
  have hal : alikeAll xs ys = true := by simpa [alike] using h
  cases ra with
  | @tuple l o vs n _ as₁ h1 h2 h3 h4 =>
    cases rb with
    | @tuple l' o' vs' n' _ bs₁ k1 k2 k3 k4 =>
      have n1 : vs.size = xs.length := by simpa using SeqAt.ReadsAll.length _ _ _ h4
      have n2 : vs'.size = ys.length := by simpa using SeqAt.ReadsAll.length _ _ _ k4
      rw [oneLt'_eq]
      simp only [if_true]
      rw [dataLt_tuple, ← firstLt_toks xs ys hal, ← n1, ← n2] at hq
      refine wpAny_bind (wpAny_cRoomFor (SeqAt.room_here hu) ?_)
      refine wpAny_bind (wpAny_callSpecialIfBound?_slot (T := "tuple") ⟨_, h1, h2⟩ F.slot_tuple_lt (tup_lt_call (e := SeqAt.pairEq xs ys) (r := fun j => dataLt (xs.getD j .none) (ys.getD j .none)) ⟨_, h1, h2, _, h3⟩ ⟨_, k1, k2, _, k3⟩ (fun j j1 j2 => ?_) (fun j j1 j2 hj => ?_) ?_))
      · have := eqAt_alikeAll xs ys A.in1 s vs.toList vs'.toList _ _ h4 k4 hal (SeqAt.room_in hu) j (by simpa using j1) (by simpa using j2)
        simpa using this
      · have := rcLt_alikeAll xs ys A.in1 s vs.toList vs'.toList _ _ h4 k4 hal (SeqAt.room_in hu) j (by simpa using j1) (by simpa using j2) hj
        simpa using this
      · exact wpAny_truthy_bool hq
theorem mapM_res {α β : Type} {M : Model} {f : α → Sem β} : ∀ (l : List α) (ms : List β) {Q : List β → Shared → Prop}, l.length = ms.length → (∀ (i : Nat) (v : α) (m : β), l[i]? = some v → ms[i]? = some m → ∀ (Q' : β → Shared → Prop), Q' m s → wpAny M A (f v) Q' E s) → Q ms s → wpAny M A (l.mapM f) Q E s
  | [], [], _, _, _, h => by rw [List.mapM_nil]; exact wpAny_pure h
  | [], _ :: _, _, hl, _, _ => by cases hl
  | _ :: _, [], _, hl, _, _ => by cases hl
  | x :: l, m :: ms, Q, hl, hf, h => by
    rw [List.mapM_cons]
    exact wpAny_bind (hf 0 x m rfl rfl _ (wpAny_bind (mapM_res l ms (Q := fun bs s' => wpAny M A (pure (m :: bs)) Q E s') (by simpa using hl) (fun i v m h1 h2 => hf (i + 1) v m (by simpa using h1) (by simpa using h2)) (wpAny_pure h))))

theorem first_reads {M : Model} {v : Value} {xs : List PyData} {as : List Addr} (r : Reads s.heap v (.tuple xs) as) : ∃ m : Option Value, (xs = [] → m = none) ∧ ∀ (E' : Value → Shared → Prop) (Q' : Option Value → Shared → Prop), Q' m s → wpAny M A (firstOfTuple' v) Q' E' s := by
  cases r with
  | @tuple l o vs n _ as₁ h1 h2 h3 h4 =>
    refine ⟨vs[0]?, fun e => ?_, fun E' Q' hq => ?_⟩
    · subst e
      have n1 : vs.size = ([] : List PyData).length := by simpa using SeqAt.ReadsAll.length _ _ _ h4
      simpa using n1
    · rw [kas_first_eq]
      refine wpAny_bind (Looks.here (show Looks M s.heap (typeOf (.ref l)) o.cls from (Looks.ld h1).andThen .now) ?_)
      rw [h2, if_neg (by first | decide | simp)]
      exact wpAny_bind (listItems_at h1 h3 (wpAny_pure hq))
theorem firsts_reads {M : Model} : ∀ {vs : List Value} {ds : List PyData}, EachIs (fun v d => ∃ as, Reads s.heap v d as) vs ds → (∀ d, d ∈ ds → ∃ xs, d = .tuple xs) →
    ∃ ms : List (Option Value), vs.length = ms.length ∧ (∀ r, ds = .tuple [] :: r → ∃ m, ms = none :: m) ∧ ∀ (i : Nat) (v : Value) (m : Option Value), vs[i]? = some v → ms[i]? = some m → ∀ (E' : Value → Shared → Prop) (Q' : Option Value → Shared → Prop), Q' m s → wpAny M A (firstOfTuple' v) Q' E' s
  | _, _, .nil, _ => ⟨[], rfl, fun _ e => (nomatch e), fun i v m h _ => by simp at h⟩
  | _, _, .cons (b := d) ⟨as, r⟩ t, ht => by
    obtain ⟨ms, h1, _, h3⟩ := firsts_reads (M := M) t fun d hd => ht d (List.mem_cons_of_mem _ hd)
    obtain ⟨xs, rfl⟩ := ht d (List.mem_cons_self ..)
    obtain ⟨m, k1, k2⟩ := first_reads (M := M) (A := A) r
    refine ⟨m :: ms, by rw [List.length_cons, List.length_cons, h1], fun r e => ?_, fun i v m' hv hm E' Q' hq => ?_⟩
    · injection e with e1 e2
      injection e1 with e1
      exact ⟨ms, by rw [k1 e1]⟩
    · cases i with
      | zero => simp at hv hm; subst hv hm; exact k2 E' Q' hq
      | succ i => exact h3 i v m' (by simpa using hv) (by simpa using hm) E' Q' hq
theorem kind_tups0 {vs : List Value} {ds : List PyData} {M : Model} (e : EachIs (fun v d => ∃ as, Reads s.heap v d as) vs ds) (ht : ∀ d, d ∈ ds → ∃ xs, d = .tuple xs) (h0 : ∃ r, ds = .tuple [] :: r) {Q : SortKind → Shared → Prop} (h : Q oneType' s) :
    wpAny M A (keyKind' vs.toArray) Q E s := by
  obtain ⟨ms, h1, h2, h3⟩ := firsts_reads (M := M) (A := A) e ht
  obtain ⟨r, h0⟩ := h0
  obtain ⟨m, rfl⟩ := h2 r h0
  have hT : ∀ v ∈ vs, Looks M s.heap (typeOf v) (Value.type "tuple") := fun v hv => by
    obtain ⟨d, hd, as, r⟩ := e.left v hv
    obtain ⟨xs, rfl⟩ := ht d hd
    exact looks_reads r
  rw [keyKind'_eq, List.mapM_toArray, map_eq_pure_bind]
  refine wpAny_bind (wpAny_bind (mapM_res vs (none :: m) h1 (fun i v m' k1 k2 Q' hq => h3 i v m' k1 k2 _ Q' hq) (wpAny_pure ?_)))
  rw [if_neg (by simp), if_neg (by simp)]
  rw [oneTypeOnly'_eq, List.mapM_toArray, map_eq_pure_bind]
  refine wpAny_bind (wpAny_bind (wpAny_bind (kas_mapM (r := Value.type "tuple") _ (fun v hv Q' hq => (hT v hv).here hq) (wpAny_pure ?_))))
  have hall : ((List.map (fun _ => Value.type "tuple") vs).toArray.all fun x => x == Value.type "tuple") = true := by
    simp only [List.all_toArray, List.all_map, List.all_eq_true]
    intro _ _
    rfl
  obtain ⟨v, vs', rfl⟩ : ∃ v vs', vs = v :: vs' := by
    cases vs with
    | nil => cases h1
    | cons v vs' => exact ⟨v, vs', rfl⟩
  have h0 : (List.map (fun _ => Value.type "tuple") (v :: vs')).toArray[0]? = some (Value.type "tuple") := by simp
  rw [h0]
  simp only [hall, if_true]
  exact wpAny_pure (wpAny_pure h)
/-- tuples, the first of them empty, can be sorted -/
theorem sorts_tups0 {vs : List Value} {ds : List PyData} (e : EachIs (fun v d => ∃ as, Reads s.heap v d as) vs ds) (hal : AllAlike ds) (ht : ∀ d, d ∈ ds → ∃ xs, d = .tuple xs) (h0 : ∃ r, ds = .tuple [] :: r) (hu : ∀ d, d ∈ ds → A.units + d.depth < cLine) : SortsAt prog w A s (dataKind s.heap ds) vs := by
  have room : ∀ {d d' : PyData}, d ∈ ds → A.units + min d.depth d'.depth < cLine := fun {d d'} hd => Nat.lt_of_le_of_lt (Nat.add_le_add_left (Nat.min_le_left _ _) _) (hu d hd)
  refine ⟨fun v hv => ?_, oneType', ?_, fun h2 E Q hq => kind_tups0 e ht h0 hq⟩
  · obtain ⟨d, hd, as, r⟩ := e.left v hv
    exact ⟨_, dataKind_some hal hd r⟩
  · intro E x y a b Q ha hb hq
    obtain ⟨d, as, hd, ra, rfl⟩ := dataKind_inv ha
    obtain ⟨d', as', hd', rb, rfl⟩ := dataKind_inv hb
    obtain ⟨xs, rfl⟩ := ht d hd
    obtain ⟨ys, rfl⟩ := ht d' hd'
    rw [keyLt'_oneType]
    exact oneLt_tup ra rb (hal _ hd _ hd') (room hd) hq
theorem lt_str_total {a b : Str} (h1 : PySem.W.dataLt (.str a) (.str b) = false) (h2 : PySem.W.dataLt (.str b) (.str a) = false) : a = b := by
  have q := (PyProof.Rows.listOrd PyProof.Rows.itemOrd).total (PySem.W.keyToks (.str a)) (PySem.W.keyToks (.str b)) h1 h2
  simp only [PySem.W.keyToks] at q
  injection q with q _
  injection q with q
  exact PySem.W.str_of_cps q
theorem sortS_asc (l : List Str) : (sortS l).Pairwise fun a b => (!PySem.W.dataLt (.str b) (.str a)) = true := by
  have T := PySem.W.sortLe_total (PyProof.Rows.listOrd PyProof.Rows.itemOrd) false fun b : Str => PySem.W.keyToks (.str b)
  exact List.pairwise_mergeSort (le := fun a b : Str => !PySem.W.dataLt (.str b) (.str a)) (fun a b c h1 h2 => T.trans a b c h1 h2) (fun a b => (Bool.or_eq_true _ _).mpr (T.total a b)) _
theorem sortS_perm {l m : List Str} (h : l.Perm m) : sortS l = sortS m := by
  refine List.Perm.eq_of_pairwise (le := fun a b => (!PySem.W.dataLt (.str b) (.str a)) = true) (fun a b _ _ h1 h2 => ?_) (sortS_asc l) (sortS_asc m) ?_
  · rw [Bool.not_eq_true'] at h1 h2
    exact lt_str_total h2 h1
  · exact (List.mergeSort_perm _ _).trans (h.trans (List.mergeSort_perm _ _).symm)
theorem sortS_is (l : List Str) : (sortS l).Perm l := List.mergeSort_perm _ _
section
variable {P : Program}
theorem each_strs {h : Heap} : ∀ {vs : List Value} {ys : List Str}, StrsAre vs ys → PySem.W.EachIs (fun v d => ∃ as, PySem.Reads h v (PyData.str d) as) vs ys
  | _, _, .nil => .nil
  | _, _, .cons n t r => .cons ⟨_, .str _ _⟩ (each_strs r)
theorem each_strR : ∀ {vs : List Value} {ys : List Str}, StrsAre vs ys → PySem.W.EachIs (fun v d => ∃ t, v = Value.str d t) vs ys
  | _, _, .nil => .nil
  | _, _, .cons n t r => .cons ⟨_, rfl⟩ (each_strR r)
theorem strs_each : ∀ {vs : List Value} {ys : List Str}, PySem.W.EachIs (fun v d => ∃ t, v = Value.str d t) vs ys → StrsAre vs ys
  | _, _, .nil => .nil
  | _, _, .cons (b := n) ⟨t, e⟩ r => by subst e; exact .cons n t (strs_each r)
theorem strs_alike (ys : List Str) : PySem.W.AllAlike (ys.map PyData.str) := PySem.W.AllAlike.of (enc := PyData.str) fun _ _ => by simp [PySem.W.alike]
theorem strs_sortable (ys : List Str) : PySem.W.Sortable (ys.map PyData.str) := PySem.W.Sortable.others (enc := PyData.str) fun _ => ⟨by simp, fun xs => by simp⟩
theorem sorts_strs {vs : List Value} {ys : List Str} (hv : StrsAre vs ys) (hu : A.units < cLine) : PySem.W.SortsAt P w A s (PySem.W.dataKind s.heap (ys.map PyData.str)) vs :=
  PySem.W.SortsAt.data (PySem.W.each_map (R := fun v d => ∃ as, PySem.Reads s.heap v d as) PyData.str (each_strs hv)) (strs_alike ys) (strs_sortable ys) fun d hd => by
    obtain ⟨y, _, rfl⟩ := List.mem_map.mp hd
    simp only [PyData.depth]
    omega
theorem sorted_out {h' : Heap} {vs : List Value} {ys : List Str} (hv : StrsAre vs ys) : StrsAre (PySem.W.sortVals (PySem.W.dataKind h' (ys.map PyData.str)) false vs vs) (sortS ys) := by
  have q := PySem.W.sortVals_data (h' := h') (R := fun v d => ∃ t, v = Value.str d t) (enc := PyData.str) false (each_strR hv) (each_strs hv) (strs_alike ys)
  rw [PySem.W.dataLe_eq] at q
  exact strs_each q
/-- the items of a tuple, gathered -/
theorem collect_tup {l : Addr} {vs : List Value} {Q : List Value → Shared → Prop} (hl : s.heap.IsTuple l vs.toArray)
    (h : Q vs { s with heap := (s.heap.push (seqObj "list" #[] 0)).update s.heap.objs.size (Obj.mapSeq (· ++ vs.toArray)) }) (hsz : vs.length ≤ sizeLine) :
    wpAny (model P w) A (collect (.ref l)) Q E s := by
  obtain ⟨o, ho, hc, n, hd⟩ := id hl
  unfold collect
  refine wpAny_bind (wpAny_runValue (codeAny_builtin entry_proto_collect' ?_))
  show wpAny _ _ (do again (.builtin "list.__iadd__" ⟨[← newList [], .ref l], []⟩)) _ _ s
  refine wpAny_bind (wpAny_newList (wpAny_pure ⟨Code.quiet_builtin _ (by decide +kernel), codeAny_builtin entry_list_iadd' ?_⟩))
  show wpAny _ _ (Builtin.List.listExtendWith (.ref s.heap.objs.size) (.ref l) (.ref s.heap.objs.size)) _ _ { s with heap := s.heap.push (seqObj "list" #[] 0) }
  unfold Builtin.List.listExtendWith
  have ho' : (s.heap.push (seqObj "list" #[] 0)).get? l = some o := Heap.get?_push_of_some _ ho
  refine wpAny_bind (wpAny_typeOf (T := "tuple") ⟨o, ho', hc⟩ ?_)
  have ht : (Value.type "tuple" == Value.type "tuple") = true := by rfl
  rw [if_pos (by rw [ht]; simp)]
  refine wpAny_bind (listItems_at ho' hd ?_)
  refine wpAny_bind (listItems_at (xs := #[]) (n := 0) (Heap.get?_push_size _ rfl) rfl ?_)
  rw [if_neg (by simp)]
  refine wpAny_bind (listUpdate_at (xs := #[]) (n := 0) (Heap.get?_push_size _ rfl) rfl ?_ (Nat.zero_le _) (by show (#[] ++ vs.toArray).size ≤ sizeLine + 1; simp only [Array.size_append, List.size_toArray, List.length_nil]; omega))
  refine wpAny_pure ?_
  show wpAny (model P w) A (do
      let o ← load s.heap.objs.size
      match o.data with
      | .seq xs _ => pure xs.toList
      | _ => unsupported "internal:collect") Q E { s with heap := (s.heap.push (seqObj "list" #[] 0)).update s.heap.objs.size (Obj.mapSeq (· ++ vs.toArray)) }
  refine wpAny_bind (wpAny_load (get?_update_seq (Heap.get?_push_size _ rfl) _) ?_)
  show wpAny _ _ (pure ((#[] : Array Value) ++ vs.toArray).toList) Q E _
  rw [show ((#[] : Array Value) ++ vs.toArray).toList = vs by simp]
  exact wpAny_pure h
theorem sorted_tup {l : Addr} {vs : List Value} {ys : List Str} {Q : Value → Shared → Prop} (hl : s.heap.IsTuple l vs.toArray) (hv : StrsAre vs ys) (hL : ys.length ≤ 1000) (hu : A.units + 3 < cLine)
    (h : ∀ out : List Value, StrsAre out (sortS ys) → Q (.ref (s.heap.objs.size + 1)) { s with heap := sortedAll s.heap vs out.toArray }) : wpAny (model P w) A (call (.builtin "sorted") [.ref l]) Q E s := by
  have hvl := hv.length
  have hz : vs.length ≤ sizeLine := by rw [sizeLine_eq]; omega
  refine Calls.call_function_entry kind_sorted plain_sorted entry_sorted (args_sorted1 _) ?_
  unfold Builtin.«sorted»
  refine wpAny_bind (m := checkCount "sorted" 1 1 _) (wpAny_pure ?_)
  refine wpAny_bind (collect_tup hl ?_ hz)
  refine wpAny_bind (wpAny_newList ?_ hz)
  have hsz : ((s.heap.push (seqObj "list" #[] 0)).update s.heap.objs.size (Obj.mapSeq (· ++ vs.toArray))).objs.size = s.heap.objs.size + 1 := by
    rw [Heap.size_update, size_push']
  show wpAny _ _ _ _ _ { s with heap := PySem.W.copyHeap s.heap vs }
  rw [hsz]
  refine wpAny_bind (wpAny_holding (wpAny_call_entry slot_list_sort ⟨_, PySem.W.copyHeap_at s.heap vs, rfl⟩ entry_list_sort (PySem.W.list_sort_vals (s := { s with heap := PySem.W.copyHeap s.heap vs }) (PySem.W.copyHeap_at s.heap vs)
    (sorts_strs (s := { s with heap := PySem.W.sortingHeap (PySem.W.copyHeap s.heap vs) (s.heap.objs.size + 1) vs }) hv (by show A.units + 1 + 1 < cLine; omega)) hz ⟨_, rfl, ?_⟩) (args_list_sort _)))
  exact wpAny_pure ⟨_, rfl, h _ (sorted_out hv)⟩
end
end Iv

set_option Elab.async false
set_option linter.all false
set_option maxRecDepth 100000
namespace Iv
open PySem PySem.Spec PyProof.Rows L2

/-- where the places lie; lists that are being made -/
structure Mu where
  ps : List Addr
  z : List Addr
def Live0 (S : Sto) (μ : Mu) (a : Addr) : Prop := ∃ (i : Nat) (xs : List D), S[i]? = some (some xs) ∧ μ.ps[i]? = some a
def Live (S : Sto) (μ : Mu) (a : Addr) : Prop := Live0 S μ a ∨ a ∈ μ.z
/-- a list of the written part -/
def KL (K : PySem.W.Frag) (a : Addr) (xs : List V) : Prop :=
  ∃ (its : List Value) (n : Nat), K.lookup a = some { cls := .type "list", data := .seq its.toArray n } ∧ its.length ≤ sizeLine ∧ Vals xs its
/-- a list to be read, of the plain make -/
def SqP (K : PySem.W.Frag) (H : Hp) (a : Addr) (xs : List V) : Prop := Rd H a (.lst xs) ∨ KL K a xs
theorem SqP.l {K : PySem.W.Frag} {H : Hp} {a : Addr} {xs : List V} (h : SqP K H a xs) : SqL K H a xs := by
  rcases h with h | ⟨its, n, hk, hz, r⟩
  · exact .inl h
  · exact .inr ⟨_, its.toArray, n, hk, rfl, rfl, rfl, by simpa using hz, by simpa using r⟩
theorem SqP.of {K : PySem.W.Frag} {H : Hp} {a : Addr} {xs : List V} (h : H a = some (.lst xs)) : SqP K H a xs := .inl (.inl h)
theorem SqP.plain {X : Cx} {pins : List (Addr × Obj)} {σ : L2.St} {H : Hp} {s : Shared} {a : Addr} {xs : List V} (I : Inv X pins σ H s) (h : SqP X.K H a xs) :
    xs.length ≤ sizeLine ∧ ∃ (its : List Value) (n : Nat), Vals xs its ∧ xs.length = its.length ∧ s.heap.get? a = some { cls := .type "list", data := .seq its.toArray n } := by
  rcases h with h | ⟨its, n, hk, hz, r⟩
  · obtain ⟨z, its, n, r, e⟩ := h.ok I.hok
    exact ⟨z, its, n, r, r.length, e⟩
  · exact ⟨by rw [r.length]; exact hz, its, n, r, r.length, I.kIn a _ hk⟩

mutual
def Rep (K : PySem.W.Frag) (S : Sto) (μ : Mu) (H : Hp) : D → V → Prop
  | .non, v => v = .non
  | .bl b, v => v = .bl b
  | .int i, v => v = .int i
  | .str x, v => v = .str x
  | .tup ds, v => ∃ (a : Addr) (vs : List V), v = .ref a ∧ SqT K H a vs ∧ Reps K S μ H ds vs
  | .lst ds, v => ∃ (a : Addr) (vs : List V), v = .ref a ∧ ((Rd H a (.lst vs) ∧ ¬ Live S μ a) ∨ KL K a vs) ∧ Reps K S μ H ds vs
  | .ref i, v => ∃ a, v = .ref a ∧ μ.ps[i]? = some a
  | .cl _ _, _ => False
  | .dct, v => ∃ (a : Addr) (kvs : List (Key × V)), v = .ref a ∧ H a = some (.dK kvs)
def Reps (K : PySem.W.Frag) (S : Sto) (μ : Mu) (H : Hp) : List D → List V → Prop
  | [], vs => vs = []
  | d :: ds, vs => ∃ v r, vs = v :: r ∧ Rep K S μ H d v ∧ Reps K S μ H ds r
end

/-- how an entry of the store lies in the heap: a list, or an object -/
def Obs (K : PySem.W.Frag) (S : Sto) (μ : Mu) (H : Hp) : List D → HO → Prop
  | .cl x ns :: fs, o => ∃ dx vs, o = .ins (He.ga K x) dx (ns.zip vs) ∧ ns.length = fs.length ∧ Reps K S μ H fs vs
  | xs, o => ∃ vs, o = .lst vs ∧ Reps K S μ H xs vs
/-- a list or an object -/
def Pl (o : HO) : Prop := (∃ vs, o = .lst vs) ∨ ∃ C dx fs, o = .ins C dx fs
theorem Obs.pl {K : PySem.W.Frag} {S : Sto} {μ : Mu} {H : Hp} {xs : List D} {o : HO} (h : Obs K S μ H xs o) : Pl o := by
  unfold Obs at h
  split at h
  · obtain ⟨dx, vs, rfl, _⟩ := h
    exact .inr ⟨_, _, _, rfl⟩
  · obtain ⟨vs, rfl, _⟩ := h
    exact .inl ⟨_, rfl⟩
theorem Obs.ls {K : PySem.W.Frag} {S : Sto} {μ : Mu} {H : Hp} {xs : List D} {o : HO} (n : isObj xs = false) (h : Obs K S μ H xs o) : ∃ vs, o = .lst vs ∧ Reps K S μ H xs vs := by
  unfold Obs at h
  split at h
  · cases n
  · exact h
theorem Obs.of {K : PySem.W.Frag} {S : Sto} {μ : Mu} {H : Hp} {xs : List D} {vs : List V} (r : Reps K S μ H xs vs) : Obs K S μ H xs (.lst vs) := by
  unfold Obs
  split
  · obtain ⟨v, r, _, h, _⟩ := r
    exact h.elim
  · exact ⟨vs, rfl, r⟩
structure Good (K : PySem.W.Frag) (S : Sto) (μ : Mu) (H : Hp) : Prop where
  len : μ.ps.length = S.length
  at_ : ∀ (i : Nat) (xs : List D), S[i]? = some (some xs) → ∃ a o, μ.ps[i]? = some a ∧ H a = some o ∧ Obs K S μ H xs o
  inj : ∀ (i j : Nat) (xs ys : List D) (a : Addr), S[i]? = some (some xs) → S[j]? = some (some ys) → μ.ps[i]? = some a → μ.ps[j]? = some a → i = j
  zl : ∀ a ∈ μ.z, ∃ vs, H a = some (.lst vs)
  zn : ∀ a ∈ μ.z, ¬ Live0 S μ a

/-- what stands is kept, but for lists that may change -/
structure EvoW (S : Sto) (μ : Mu) (H : Hp) (S' : Sto) (μ' : Mu) (H' : Hp) : Prop where
  mu : ∀ (i : Nat) (a : Addr), μ.ps[i]? = some a → μ'.ps[i]? = some a
  old : ∀ a o, H a = some o → ¬ Live S μ a → H' a = some o ∧ ¬ Live S' μ' a
structure Evo (S : Sto) (μ : Mu) (H : Hp) (S' : Sto) (μ' : Mu) (H' : Hp) : Prop where
  w : EvoW S μ H S' μ' H'
  z : μ'.z = μ.z
  hold : ∀ a o, a ∈ μ.z → H a = some o → H' a = some o

theorem EvoW.refl (S : Sto) (μ : Mu) (H : Hp) : EvoW S μ H S μ H := ⟨fun _ _ h => h, fun _ _ h n => ⟨h, n⟩⟩
theorem EvoW.trans {S μ H S1 μ1 H1 S2 μ2 H2} (a : EvoW S μ H S1 μ1 H1) (b : EvoW S1 μ1 H1 S2 μ2 H2) : EvoW S μ H S2 μ2 H2 :=
  ⟨fun i x h => b.mu i x (a.mu i x h), fun x o h n => let ⟨h1, n1⟩ := a.old x o h n; b.old x o h1 n1⟩
theorem Evo.refl (S : Sto) (μ : Mu) (H : Hp) : Evo S μ H S μ H := ⟨EvoW.refl _ _ _, rfl, fun _ _ _ h => h⟩
theorem Evo.trans {S μ H S1 μ1 H1 S2 μ2 H2} (a : Evo S μ H S1 μ1 H1) (b : Evo S1 μ1 H1 S2 μ2 H2) : Evo S μ H S2 μ2 H2 :=
  ⟨a.w.trans b.w, b.z.trans a.z, fun x o h q => b.hold x o (by rw [a.z]; exact h) (a.hold x o h q)⟩

section
variable {K : PySem.W.Frag} {S S' : Sto} {μ μ' : Mu} {H H' : Hp}

theorem Good.live (g : Good K S μ H) {a : Addr} (h : Live S μ a) : ∃ o, H a = some o ∧ Pl o := by
  rcases h with ⟨i, xs, e, m⟩ | h
  · obtain ⟨b, o, m', hb, q⟩ := g.at_ i xs e
    rw [m] at m'; cases m'
    exact ⟨o, hb, q.pl⟩
  · obtain ⟨vs, e⟩ := g.zl a h
    exact ⟨_, e, .inl ⟨vs, rfl⟩⟩
theorem Good.notLive (g : Good K S μ H) {a : Addr} (h : ∀ o, H a = some o → ¬ Pl o) : ¬ Live S μ a := fun l => by
  obtain ⟨o, e, p⟩ := g.live l
  exact h o e p
theorem notPl_tup {xs : List V} : ¬ Pl (.tup xs) := fun h => by
  rcases h with ⟨_, h⟩ | ⟨_, _, _, h⟩ <;> cases h
theorem notPl_frz {ob : Obj} {u : HO} : ¬ Pl (.frz ob u) := fun h => by
  rcases h with ⟨_, h⟩ | ⟨_, _, _, h⟩ <;> cases h
theorem notPl_dK {kvs : List (Key × V)} : ¬ Pl (.dK kvs) := fun h => by
  rcases h with ⟨_, h⟩ | ⟨_, _, _, h⟩ <;> cases h
theorem rdT (g : Good K S μ H) (e : EvoW S μ H S' μ' H') {a : Addr} {vs : List V} (h : Rd H a (.tup vs)) : Rd H' a (.tup vs) := by
  rcases h with h | ⟨o, h⟩
  · exact .inl (e.old a _ h (g.notLive fun ws q => by rw [h] at q; cases q; exact notPl_tup)).1
  · exact .inr ⟨o, (e.old a _ h (g.notLive fun ws q => by rw [h] at q; cases q; exact notPl_frz)).1⟩
theorem sqT_mono (g : Good K S μ H) (e : EvoW S μ H S' μ' H') {a : Addr} {vs : List V} (h : SqT K H a vs) : SqT K H' a vs := by
  rcases h with h | h
  · exact .inl (rdT g e h)
  · exact .inr h
theorem rdL (e : EvoW S μ H S' μ' H') {a : Addr} {vs : List V} (h : Rd H a (.lst vs)) (n : ¬ Live S μ a) : Rd H' a (.lst vs) ∧ ¬ Live S' μ' a := by
  rcases h with h | ⟨o, h⟩
  · exact ⟨.inl (e.old a _ h n).1, (e.old a _ h n).2⟩
  · exact ⟨.inr ⟨o, (e.old a _ h n).1⟩, (e.old a _ h n).2⟩
mutual
theorem Rep.mono (g : Good K S μ H) (e : EvoW S μ H S' μ' H') : ∀ {d : D} {v : V}, Rep K S μ H d v → Rep K S' μ' H' d v
  | .non, _, h => h
  | .bl _, _, h => h
  | .int _, _, h => h
  | .str _, _, h => h
  | .tup ds, _, ⟨a, vs, e1, q, r⟩ => ⟨a, vs, e1, sqT_mono g e q, Reps.mono g e r⟩
  | .lst ds, _, ⟨a, vs, e1, q, r⟩ => ⟨a, vs, e1, q.elim (fun z => .inl (rdL e z.1 z.2)) .inr, Reps.mono g e r⟩
  | .ref i, _, ⟨a, e1, m⟩ => ⟨a, e1, e.mu i a m⟩
  | .dct, _, ⟨a, kvs, e1, q⟩ => ⟨a, kvs, e1, (e.old a _ q (g.notLive fun ws z => by rw [q] at z; cases z; exact notPl_dK)).1⟩
theorem Reps.mono (g : Good K S μ H) (e : EvoW S μ H S' μ' H') : ∀ {ds : List D} {vs : List V}, Reps K S μ H ds vs → Reps K S' μ' H' ds vs
  | [], _, h => h
  | d :: ds, _, ⟨v, r, e1, h1, h2⟩ => ⟨v, r, e1, Rep.mono g e h1, Reps.mono g e h2⟩
end
theorem Obs.mono (g : Good K S μ H) (e : EvoW S μ H S' μ' H') {xs : List D} {o : HO} (h : Obs K S μ H xs o) : Obs K S' μ' H' xs o := by
  unfold Obs at h ⊢
  split at h
  · obtain ⟨dx, vs, e1, e2, q⟩ := h
    exact ⟨dx, vs, e1, e2, q.mono g e⟩
  · obtain ⟨vs, e1, q⟩ := h
    exact ⟨vs, e1, q.mono g e⟩
theorem Reps.length : ∀ {ds : List D} {vs : List V}, Reps K S μ H ds vs → ds.length = vs.length
  | [], _, h => by cases (show _ = [] from h); rfl
  | d :: ds, _, ⟨v, r, e1, _, h2⟩ => by rw [e1, List.length_cons, List.length_cons, Reps.length h2]
theorem Reps.append : ∀ {ds es : List D} {vs ws : List V}, Reps K S μ H ds vs → Reps K S μ H es ws → Reps K S μ H (ds ++ es) (vs ++ ws)
  | [], _, _, _, h, h' => by cases (show _ = [] from h); exact h'
  | d :: ds, _, _, _, ⟨v, r, e1, h1, h2⟩, h' => by subst e1; exact ⟨v, _, rfl, h1, Reps.append h2 h'⟩
theorem Reps.get : ∀ {ds : List D} {vs : List V} {i : Nat} {d : D}, Reps K S μ H ds vs → ds[i]? = some d → ∃ v, vs[i]? = some v ∧ Rep K S μ H d v
  | [], _, _, _, _, e => by simp at e
  | d :: ds, _, 0, _, ⟨v, r, e1, h1, _⟩, e => by subst e1; simp at e; subst e; exact ⟨v, rfl, h1⟩
  | d :: ds, _, i + 1, _, ⟨v, r, e1, _, h2⟩, e => by
    subst e1
    obtain ⟨w, h3, h4⟩ := Reps.get (i := i) h2 (by simpa using e)
    exact ⟨w, by simpa using h3, h4⟩
theorem Reps.take : ∀ {ds : List D} {vs : List V} (n : Nat), Reps K S μ H ds vs → Reps K S μ H (ds.take n) (vs.take n)
  | _, _, 0, _ => by simp [Reps]
  | [], _, _ + 1, h => by cases (show _ = [] from h); exact rfl
  | d :: ds, _, n + 1, ⟨v, r, e1, h1, h2⟩ => by subst e1; exact ⟨v, _, rfl, h1, Reps.take n h2⟩
theorem Reps.drop : ∀ {ds : List D} {vs : List V} (n : Nat), Reps K S μ H ds vs → Reps K S μ H (ds.drop n) (vs.drop n)
  | _, _, 0, h => h
  | [], _, _ + 1, h => by cases (show _ = [] from h); exact rfl
  | d :: ds, _, n + 1, ⟨v, r, e1, _, h2⟩ => by subst e1; exact Reps.drop n h2
theorem Reps.set {d : D} {v : V} (r : Rep K S μ H d v) : ∀ {ds : List D} {vs : List V} (i : Nat), Reps K S μ H ds vs → Reps K S μ H (ds.set i d) (vs.set i v)
  | [], _, _, h => by cases (show _ = [] from h); exact rfl
  | _ :: ds, _, 0, ⟨w, q, e1, _, h2⟩ => by subst e1; exact ⟨v, q, rfl, r, h2⟩
  | _ :: ds, _, i + 1, ⟨w, q, e1, h1, h2⟩ => by subst e1; exact ⟨w, _, rfl, h1, Reps.set r i h2⟩
theorem Reps.eraseIdx : ∀ {ds : List D} {vs : List V} (i : Nat), Reps K S μ H ds vs → Reps K S μ H (ds.eraseIdx i) (vs.eraseIdx i)
  | [], _, _, h => by cases (show _ = [] from h); exact rfl
  | _ :: ds, _, 0, ⟨w, q, e1, _, h2⟩ => by subst e1; exact h2
  | _ :: ds, _, i + 1, ⟨w, q, e1, h1, h2⟩ => by subst e1; exact ⟨w, _, rfl, h1, Reps.eraseIdx i h2⟩
theorem Reps.dropLast {ds : List D} {vs : List V} (h : Reps K S μ H ds vs) : Reps K S μ H ds.dropLast vs.dropLast := by
  rw [List.dropLast_eq_take, List.dropLast_eq_take, ← h.length]
  exact h.take _
theorem Reps.rep {ds : List D} {vs : List V} (h : Reps K S μ H ds vs) : ∀ k : Nat, Reps K S μ H (List.replicate k ds).flatten (List.replicate k vs).flatten
  | 0 => rfl
  | k + 1 => by
    rw [List.replicate_succ, List.replicate_succ, List.flatten_cons, List.flatten_cons]
    exact Reps.append h (Reps.rep h k)
theorem Reps.cut {ds : List D} {vs : List V} (h : Reps K S μ H ds vs) (lo hi : Option Int) : Reps K S μ H (cutD ds lo hi) (cutV vs lo hi) := by
  unfold cutD cutV
  rw [h.length]
  exact (h.drop _).take _

/-- a list to be read -/
def LsR (K : PySem.W.Frag) (S : Sto) (μ : Mu) (H : Hp) (xs : List D) (v : V) : Prop := ∃ a vs, v = .ref a ∧ SqP K H a vs ∧ Reps K S μ H xs vs
theorem Rep.lsR {ds : List D} {v : V} (h : Rep K S μ H (.lst ds) v) : LsR K S μ H ds v := by
  obtain ⟨a, vs, e, q, r⟩ := h
  exact ⟨a, vs, e, q.elim (fun z => .inl z.1) .inr, r⟩
/-- what a value is seen as -/
def Seen (K : PySem.W.Frag) (S : Sto) (μ : Mu) (H : Hp) : D → V → Prop
  | .lst xs, v => LsR K S μ H xs v
  | d, v => Rep K S μ H d v
theorem see_ok (g : Good K S μ H) {d d' : D} {v : V} (h : Rep K S μ H d v) (e : see S d = some d') : Seen K S μ H d' v := by
  cases d with
  | ref i =>
    unfold see at e
    simp only at e
    cases q : S[i]? with
    | none => rw [q] at e; cases e
    | some o =>
      cases o with
      | none => rw [q] at e; cases e
      | some xs =>
        rw [q] at e
        simp only at e
        split at e
        · cases e
        · rename_i no
          cases e
          obtain ⟨a, e1, m⟩ := h
          obtain ⟨b, o, m', hb, r⟩ := g.at_ i xs q
          rw [m] at m'; cases m'
          obtain ⟨vs, rfl, r2⟩ := Obs.ls (by simpa using no) r
          exact ⟨a, vs, e1, SqP.of hb, r2⟩
  | lst xs => cases e; exact h.lsR
  | non => cases e; exact h
  | bl b => cases e; exact h
  | int i => cases e; exact h
  | str x => cases e; exact h
  | tup xs => cases e; exact h
  | cl _ _ => exact h.elim
  | dct => cases e; exact h

mutual
theorem Rep.dp : ∀ {d : D} {v : V}, D.pure d = true → Rep K S μ H d v → Dp K H v d.py
  | .non, _, _, h => by cases (show _ = V.non from h); exact .non
  | .bl b, _, _, h => by cases (show _ = V.bl b from h); exact .bl b
  | .int i, _, _, h => by cases (show _ = V.int i from h); exact .int i
  | .str x, _, _, h => by cases (show _ = V.str x from h); exact .str x
  | .tup ds, _, p, ⟨a, vs, e, q, r⟩ => by subst e; exact .tup q (Reps.dp p r)
  | .lst ds, _, p, ⟨a, vs, e, q, r⟩ => by subst e; exact .lst (SqP.l (q.elim (fun z => .inl z.1) .inr)) (Reps.dp p r)
  | .ref i, _, p, _ => by cases p
theorem Reps.dp : ∀ {ds : List D} {vs : List V}, D.pures ds = true → Reps K S μ H ds vs → DpAll K H vs (D.pys ds)
  | [], _, _, h => by cases (show _ = [] from h); exact .nil
  | d :: ds, _, p, ⟨v, r, e, h1, h2⟩ => by
    subst e
    have p' : (D.pure d && D.pures ds) = true := p
    rw [Bool.and_eq_true] at p'
    exact .cons (Rep.dp p'.1 h1) (Reps.dp p'.2 h2)
end
theorem Seen.dp {d : D} {v : V} (p : D.pure d = true) (h : Seen K S μ H d v) : Dp K H v d.py := by
  cases d with
  | lst xs =>
    obtain ⟨a, vs, e, q, r⟩ := h
    subst e
    exact .lst q.l (Reps.dp p r)
  | ref i => cases p
  | non => exact Rep.dp (K := K) (S := S) (μ := μ) p h
  | bl b => exact Rep.dp (K := K) (S := S) (μ := μ) p h
  | int i => exact Rep.dp (K := K) (S := S) (μ := μ) p h
  | str x => exact Rep.dp (K := K) (S := S) (μ := μ) p h
  | tup xs => exact Rep.dp (K := K) (S := S) (μ := μ) p h
  | cl _ _ => cases p
  | dct => cases p

theorem flat_rep {d : D} {v : V} (f : d.flat = true) (h : Rep K S μ H d v) : flatV v = true ∧ ∀ S' μ' H', Rep K S' μ' H' d v := by
  cases d with
  | non => cases (show _ = V.non from h); exact ⟨rfl, fun _ _ _ => rfl⟩
  | bl b => cases (show _ = V.bl b from h); exact ⟨rfl, fun _ _ _ => rfl⟩
  | int i => cases (show _ = V.int i from h); exact ⟨rfl, fun _ _ _ => rfl⟩
  | str x => cases (show _ = V.str x from h); exact ⟨rfl, fun _ _ _ => rfl⟩
  | tup _ => cases f
  | lst _ => cases f
  | ref _ => cases f
  | cl _ _ => cases f
  | dct => cases f
theorem eqv_flat {d e : D} {v w : V} (fd : d.flat = true) (fe : e.flat = true) (h : Rep K S μ H d v) (h' : Rep K S μ H e w) : eqV v w = D.eqv d e := by
  cases d with
  | non => cases (show _ = V.non from h); cases e <;> first | (cases fe; done) | (cases h'; simp [eqV, D.eqv, D.py, PyData.eqv])
  | bl b => cases (show _ = V.bl b from h); cases e <;> first | (cases fe; done) | (cases h'; simp [eqV, D.eqv, D.py, PyData.eqv])
  | int b => cases (show _ = V.int b from h); cases e <;> first | (cases fe; done) | (cases h'; simp [eqV, D.eqv, D.py, PyData.eqv])
  | str b => cases (show _ = V.str b from h); cases e <;> first | (cases fe; done) | (cases h'; simp [eqV, D.eqv, D.py, PyData.eqv])
  | tup _ => cases fd
  | lst _ => cases fd
  | ref _ => cases fd
  | cl _ _ => cases fd
  | dct => cases fd
theorem flats_rep : ∀ {ds : List D} {vs : List V}, ds.all D.flat = true → Reps K S μ H ds vs → vs.all flatV = true
  | [], _, _, h => by cases (show _ = [] from h); rfl
  | d :: ds, _, f, ⟨v, r, e, h1, h2⟩ => by
    subst e
    rw [List.all_cons, Bool.and_eq_true] at f ⊢
    exact ⟨(flat_rep f.1 h1).1, flats_rep f.2 h2⟩
theorem inV_flat {x : D} {v : V} (fx : x.flat = true) (hx : Rep K S μ H x v) : ∀ {ds : List D} {vs : List V}, ds.all D.flat = true → Reps K S μ H ds vs → inV v vs = inFlat x ds
  | [], _, _, h => by cases (show _ = [] from h); rfl
  | d :: ds, _, f, ⟨w, r, e, h1, h2⟩ => by
    subst e
    rw [List.all_cons, Bool.and_eq_true] at f
    have q := inV_flat fx hx f.2 h2
    unfold inV inFlat at q ⊢
    rw [List.any_cons, List.any_cons, q, eqv_flat f.1 fx h1 hx]

theorem Good.none_notLive (g : Good K S μ H) {p : Addr} (h : H p = none) : ¬ Live S μ p := fun l => by
  obtain ⟨o, e, _⟩ := g.live l
  rw [h] at e; cases e
theorem evo_new (g : Good K S μ H) {p : Addr} {o : HO} (h : H p = none) : Evo S μ H S μ (upd H p o) :=
  ⟨⟨fun _ _ q => q, fun a u q n => ⟨by rw [upd_ne (ne_of_none q h)]; exact q, n⟩⟩, rfl, fun a u _ q => by rw [upd_ne (ne_of_none q h)]; exact q⟩
theorem good_new (g : Good K S μ H) {p : Addr} {o : HO} (h : H p = none) : Good K S μ (upd H p o) := by
  have e := evo_new (o := o) g h
  refine ⟨g.len, fun i xs q => ?_, g.inj, fun a ha => ?_, g.zn⟩
  · obtain ⟨a, vs, m, hh, r⟩ := g.at_ i xs q
    exact ⟨a, vs, m, by rw [upd_ne (ne_of_none hh h)]; exact hh, Obs.mono g e.w r⟩
  · obtain ⟨vs, hh⟩ := g.zl a ha
    exact ⟨vs, by rw [upd_ne (ne_of_none hh h)]; exact hh⟩
theorem rep_tup_new (g : Good K S μ H) {p : Addr} {ds : List D} {vs : List V} (h : H p = none) (r : Reps K S μ H ds vs) : Rep K S μ (upd H p (.tup vs)) (.tup ds) (.ref p) :=
  ⟨p, vs, rfl, SqT.of upd_same, r.mono g (evo_new g h).w⟩
theorem rep_lst_new (g : Good K S μ H) {p : Addr} {ds : List D} {vs : List V} (h : H p = none) (r : Reps K S μ H ds vs) : Rep K S μ (upd H p (.lst vs)) (.lst ds) (.ref p) :=
  ⟨p, vs, rfl, .inl ⟨.inl upd_same, g.none_notLive h⟩, r.mono g (evo_new g h).w⟩

theorem get_snoc {α : Type} {l : List α} {x y : α} {i : Nat} (h : (l ++ [x])[i]? = some y) : l[i]? = some y ∨ (i = l.length ∧ x = y) := by
  by_cases hi : i < l.length
  · rw [List.getElem?_append_left hi] at h; exact .inl h
  · rw [List.getElem?_append_right (by omega)] at h
    have e : i - l.length = 0 := by
      rcases Nat.eq_zero_or_pos (i - l.length) with e | e
      · exact e
      · rw [List.getElem?_eq_none (by simp; omega)] at h; cases h
    rw [e] at h
    exact .inr ⟨by omega, by simpa using h⟩
theorem get_mono {α : Type} {l r : List α} {x : α} {i : Nat} (h : l[i]? = some x) : (l ++ r)[i]? = some x := by
  rw [List.getElem?_append_left (List.getElem?_eq_some_iff.mp h).1]; exact h
theorem get_last {α : Type} {l : List α} {x : α} {n : Nat} (h : l.length = n) : (l ++ [x])[n]? = some x := by
  rw [← h, List.getElem?_append_right (Nat.le_refl _)]; simp
abbrev Mu.more (μ : Mu) (p : Addr) : Mu := ⟨μ.ps ++ [p], μ.z⟩
theorem live0_more (g : Good K S μ H) {p a : Addr} {xs : List D} (l : Live0 (S ++ [some xs]) (μ.more p) a) : Live0 S μ a ∨ a = p := by
  obtain ⟨i, ys, e1, e2⟩ := l
  rcases get_snoc e2 with m | ⟨m, z⟩
  · rcases get_snoc e1 with k | ⟨k, _⟩
    · exact .inl ⟨i, ys, k, m⟩
    · have := (List.getElem?_eq_some_iff.mp m).1
      rw [k, g.len] at this
      exact absurd this (Nat.lt_irrefl _)
  · exact .inr z.symm
/-- the state around, without what speaks of p -/
structure Apart (K : PySem.W.Frag) (S : Sto) (μ : Mu) (H : Hp) (p : Addr) (vs : List V) : Prop where
  g : Good K S μ H
  nl : ¬ Live S μ p
theorem evo_mk (g : Good K S μ H) {p : Addr} {xs : List D} {o : HO} (h : H p = none) : Evo S μ H (S ++ [some xs]) (μ.more p) (upd H p o) :=
  ⟨⟨fun i a m => get_mono m, fun a u q n => ⟨by rw [upd_ne (ne_of_none q h)]; exact q, fun l => by
    rcases l with l | l
    · rcases live0_more g l with l | l
      · exact n (.inl l)
      · subst l
        rw [h] at q; cases q
    · exact n (.inr l)⟩⟩, rfl, fun a u _ q => by rw [upd_ne (ne_of_none q h)]; exact q⟩
theorem good_mk2 (g : Good K S μ H) {p : Addr} {xs : List D} {o : HO} (h : H p = none) (r : Obs K S μ H xs o) : Good K (S ++ [some xs]) (μ.more p) (upd H p o) := by
  have e : Evo S μ H (S ++ [some xs]) (μ.more p) (upd H p o) := evo_mk g h
  have low : ∀ (i : Nat) (ys : List D), (S ++ [some xs])[i]? = some (some ys) → (S[i]? = some (some ys)) ∨ (i = S.length ∧ xs = ys) := fun i ys q => by
    rcases get_snoc q with k | ⟨k, z⟩
    · exact .inl k
    · exact .inr ⟨k, Option.some.inj z⟩
  refine ⟨by rw [List.length_append, List.length_append, g.len]; rfl, fun i ys q => ?_, fun i j ys zs a q1 q2 m1 m2 => ?_, fun a ha => ?_, fun a ha l => ?_⟩
  · rcases low i ys q with k | ⟨k, z⟩
    · obtain ⟨a, ws, m, ha, rr⟩ := g.at_ i ys k
      exact ⟨a, ws, get_mono m, by rw [upd_ne (ne_of_none ha h)]; exact ha, Obs.mono g e.w rr⟩
    · subst z
      exact ⟨p, o, get_last (by rw [k, g.len]), upd_same, Obs.mono g e.w r⟩
  · have pos : ∀ (i : Nat) (ys : List D), (S ++ [some xs])[i]? = some (some ys) → (μ.ps ++ [p])[i]? = some a → (S[i]? = some (some ys) ∧ μ.ps[i]? = some a) ∨ (i = S.length ∧ a = p) := fun i ys q m => by
      rcases low i ys q with k | ⟨k, _⟩
      · left
        refine ⟨k, ?_⟩
        rcases get_snoc m with z | ⟨z, _⟩
        · exact z
        · have := (List.getElem?_eq_some_iff.mp k).1
          rw [z, g.len] at this
          exact absurd this (Nat.lt_irrefl _)
      · right
        refine ⟨k, ?_⟩
        rw [get_last (by rw [k, g.len])] at m
        exact (Option.some.inj m).symm
    rcases pos i ys q1 m1 with ⟨k1, n1⟩ | ⟨k1, n1⟩
    · rcases pos j zs q2 m2 with ⟨k2, n2⟩ | ⟨k2, n2⟩
      · exact g.inj i j ys zs a k1 k2 n1 n2
      · subst n2
        exact absurd (.inl ⟨i, ys, k1, n1⟩) (g.none_notLive h)
    · rcases pos j zs q2 m2 with ⟨k2, n2⟩ | ⟨k2, n2⟩
      · subst n1
        exact absurd (.inl ⟨j, zs, k2, n2⟩) (g.none_notLive h)
      · rw [k1, k2]
  · obtain ⟨ws, q⟩ := g.zl a ha
    exact ⟨ws, by rw [upd_ne (ne_of_none q h)]; exact q⟩
  · rcases live0_more g l with l | l
    · exact g.zn a ha l
    · subst l
      obtain ⟨ws, q⟩ := g.zl a ha
      rw [h] at q; cases q

theorem good_mk (g : Good K S μ H) {p : Addr} {xs : List D} {vs : List V} (h : H p = none) (r : Reps K S μ H xs vs) : Good K (S ++ [some xs]) (μ.more p) (upd H p (.lst vs)) := good_mk2 g h (Obs.of r)

theorem live0_set {i : Nat} {x : Option (List D)} {a : Addr} (h : Live0 (S.set i x) μ a) : Live0 S μ a ∨ (μ.ps[i]? = some a ∧ i < S.length ∧ x ≠ none) := by
  obtain ⟨j, ys, e, m⟩ := h
  by_cases hj : i = j
  · subst hj
    by_cases hi : i < S.length
    · rw [List.getElem?_set_self hi] at e
      exact .inr ⟨m, hi, by intro z; rw [z] at e; cases e⟩
    · rw [List.getElem?_eq_none (by rw [List.length_set]; omega)] at e; cases e
  · rw [List.getElem?_set_ne hj] at e
    exact .inl ⟨j, ys, e, m⟩
theorem evo_put (g : Good K S μ H) {i : Nat} {a : Addr} {xs ys : List D} {o : HO} (hi : S[i]? = some (some xs)) (m : μ.ps[i]? = some a) : Evo S μ H (S.set i (some ys)) μ (upd H a o) := by
  have la : Live0 S μ a := ⟨i, xs, hi, m⟩
  refine ⟨⟨fun _ _ q => q, fun b u q n => ⟨by rw [upd_ne fun z => by subst z; exact n (.inl la)]; exact q, fun l => ?_⟩⟩, rfl, fun b u hb q => by rw [upd_ne fun z => by subst z; exact g.zn _ hb la]; exact q⟩
  rcases l with l | l
  · rcases live0_set l with k | ⟨k, _, _⟩
    · exact n (.inl k)
    · rw [m] at k; cases k
      exact n (.inl la)
  · exact n (.inr l)
theorem good_put2 (g : Good K S μ H) {i : Nat} {a : Addr} {xs ys : List D} {o : HO} (hi : S[i]? = some (some xs)) (m : μ.ps[i]? = some a) (r : Obs K S μ H ys o) :
    Good K (S.set i (some ys)) μ (upd H a o) := by
  have e : Evo S μ H (S.set i (some ys)) μ (upd H a o) := evo_put g hi m
  have la : Live0 S μ a := ⟨i, xs, hi, m⟩
  have lt := (List.getElem?_eq_some_iff.mp hi).1
  have low : ∀ (j : Nat) (zs : List D), (S.set i (some ys))[j]? = some (some zs) → ∃ ws, S[j]? = some (some ws) ∧ (i ≠ j → ws = zs) ∧ (i = j → ys = zs) := fun j zs q => by
    by_cases h : i = j
    · subst h
      rw [List.getElem?_set_self lt] at q
      exact ⟨xs, hi, fun z => absurd rfl z, fun _ => Option.some.inj (Option.some.inj q)⟩
    · rw [List.getElem?_set_ne h] at q
      exact ⟨zs, q, fun _ => rfl, fun z => absurd z h⟩
  refine ⟨by rw [List.length_set]; exact g.len, fun j zs q => ?_, fun j k zs ws b q1 q2 m1 m2 => ?_, fun b hb => ?_, fun b hb l => ?_⟩
  · obtain ⟨ws, q0, ne, eq⟩ := low j zs q
    obtain ⟨b, us, mb, hb, rr⟩ := g.at_ j ws q0
    by_cases h : i = j
    · subst h
      have z := eq rfl
      subst z
      rw [m] at mb; cases mb
      exact ⟨a, o, m, upd_same, Obs.mono g e.w r⟩
    · have z := ne h
      subst z
      refine ⟨b, us, mb, ?_, Obs.mono g e.w rr⟩
      rw [upd_ne fun z => h (g.inj i j xs ws a hi q0 m (by rw [← z]; exact mb))]; exact hb
  · obtain ⟨ws1, q1', _, _⟩ := low j zs q1
    obtain ⟨ws2, q2', _, _⟩ := low k ws q2
    exact g.inj j k ws1 ws2 b q1' q2' m1 m2
  · obtain ⟨us, q⟩ := g.zl b hb
    exact ⟨us, by rw [upd_ne fun z => by subst z; exact g.zn _ hb la]; exact q⟩
  · rcases live0_set l with k | ⟨k, _, _⟩
    · exact g.zn b hb k
    · rw [m] at k; cases k
      exact g.zn a hb la
theorem good_put (g : Good K S μ H) {i : Nat} {a : Addr} {xs ys : List D} {vs : List V} (hi : S[i]? = some (some xs)) (m : μ.ps[i]? = some a) (r : Reps K S μ H ys vs) :
    Good K (S.set i (some ys)) μ (upd H a (.lst vs)) := good_put2 g hi m (Obs.of r)
theorem evo_drop {i : Nat} : Evo S μ H (S.set i none) μ H :=
  ⟨⟨fun _ _ q => q, fun b u q n => ⟨q, fun l => by
    rcases l with l | l
    · rcases live0_set l with k | ⟨_, _, k⟩
      · exact n (.inl k)
      · exact k rfl
    · exact n (.inr l)⟩⟩, rfl, fun _ _ _ q => q⟩
theorem low_drop {i : Nat} (j : Nat) (zs : List D) (q : (S.set i none)[j]? = some (some zs)) : S[j]? = some (some zs) ∧ i ≠ j := by
  by_cases h : i = j
  · subst h
    by_cases lt : i < S.length
    · rw [List.getElem?_set_self lt] at q; cases q
    · rw [List.getElem?_eq_none (by rw [List.length_set]; omega)] at q; cases q
  · rw [List.getElem?_set_ne h] at q
    exact ⟨q, h⟩
theorem good_drop (g : Good K S μ H) {i : Nat} : Good K (S.set i none) μ H := by
  have e : Evo S μ H (S.set i none) μ H := evo_drop
  refine ⟨by rw [List.length_set]; exact g.len, fun j zs q => ?_, fun j k zs ws b q1 q2 m1 m2 => g.inj j k zs ws b (low_drop j zs q1).1 (low_drop k ws q2).1 m1 m2, g.zl, fun a ha l => ?_⟩
  · obtain ⟨b, us, mb, hb, rr⟩ := g.at_ j zs (low_drop j zs q).1
    exact ⟨b, us, mb, hb, rr.mono g e.w⟩
  · rcases live0_set l with k | ⟨_, _, k⟩
    · exact g.zn a ha k
    · exact k rfl
theorem rep_drop (g : Good K S μ H) {i : Nat} {xs : List D} {v : V} (hi : S[i]? = some (some xs)) (no : isObj xs = false) (r : Rep K S μ H (.ref i) v) : Rep K (S.set i none) μ H (.lst xs) v := by
  obtain ⟨a, e1, m⟩ := r
  obtain ⟨b, o, m', hb, r0⟩ := g.at_ i xs hi
  rw [m] at m'; cases m'
  obtain ⟨vs, rfl, rr⟩ := Obs.ls no r0
  refine ⟨a, vs, e1, .inl ⟨.inl hb, fun l => ?_⟩, rr.mono g evo_drop.w⟩
  rcases l with ⟨j, ys, e, mj⟩ | l
  · obtain ⟨q, ne⟩ := low_drop j ys e
    exact ne (g.inj i j xs ys a hi q m mj)
  · exact g.zn a l ⟨i, xs, hi, m⟩

abbrev Mu.take (μ : Mu) (n : Nat) : Mu := ⟨μ.ps.take n, μ.z⟩
theorem live0_take {n : Nat} {a : Addr} (h : Live0 (S.take n) (μ.take n) a) : Live0 S μ a := by
  obtain ⟨i, xs, e, m⟩ := h
  rw [List.getElem?_take] at e m
  split at e
  · rename_i hlt
    rw [if_pos hlt] at m
    exact ⟨i, xs, e, m⟩
  · cases e
theorem live_take {n : Nat} {a : Addr} (h : Live (S.take n) (μ.take n) a) : Live S μ a := h.elim (fun l => .inl (live0_take l)) .inr
mutual
theorem Rep.forget {S1 : Sto} {μ1 : Mu} (lv : ∀ a, Live S1 μ1 a → Live S μ a) : ∀ {d : D} {v : V}, D.pure d = true → Rep K S μ H d v → Rep K S1 μ1 H d v
  | .non, _, _, h => h
  | .bl _, _, _, h => h
  | .int _, _, _, h => h
  | .str _, _, _, h => h
  | .tup ds, _, p, ⟨a, vs, e1, q, r⟩ => ⟨a, vs, e1, q, Reps.forget lv p r⟩
  | .lst ds, _, p, ⟨a, vs, e1, q, r⟩ => ⟨a, vs, e1, q.elim (fun z => .inl ⟨z.1, fun l => z.2 (lv a l)⟩) .inr, Reps.forget lv p r⟩
  | .ref i, _, p, _ => by cases p
theorem Reps.forget {S1 : Sto} {μ1 : Mu} (lv : ∀ a, Live S1 μ1 a → Live S μ a) : ∀ {ds : List D} {vs : List V}, D.pures ds = true → Reps K S μ H ds vs → Reps K S1 μ1 H ds vs
  | [], _, _, h => h
  | d :: ds, _, p, ⟨v, r, e1, h1, h2⟩ => by
    have p' : (D.pure d && D.pures ds) = true := p
    rw [Bool.and_eq_true] at p'
    exact ⟨v, r, e1, Rep.forget lv p'.1 h1, Reps.forget lv p'.2 h2⟩
end
mutual
theorem Rep.under {n : Nat} : ∀ {d : D} {v : V}, D.under n d = true → Rep K S μ H d v → Rep K (S.take n) (μ.take n) H d v
  | .non, _, _, h => h
  | .bl _, _, _, h => h
  | .int _, _, _, h => h
  | .str _, _, _, h => h
  | .tup ds, _, p, ⟨a, vs, e1, q, r⟩ => ⟨a, vs, e1, q, Reps.under p r⟩
  | .lst ds, _, p, ⟨a, vs, e1, q, r⟩ => ⟨a, vs, e1, q.elim (fun z => .inl ⟨z.1, fun l => z.2 (live_take l)⟩) .inr, Reps.under p r⟩
  | .ref i, _, p, ⟨a, e1, m⟩ => ⟨a, e1, by
    have p' : decide (i < n) = true := p
    rw [List.getElem?_take, if_pos (of_decide_eq_true p')]
    exact m⟩
  | .dct, _, _, h => h
theorem Reps.under {n : Nat} : ∀ {ds : List D} {vs : List V}, D.unders n ds = true → Reps K S μ H ds vs → Reps K (S.take n) (μ.take n) H ds vs
  | [], _, _, h => h
  | d :: ds, _, p, ⟨v, r, e1, h1, h2⟩ => by
    have p' : (D.under n d && D.unders n ds) = true := p
    rw [Bool.and_eq_true] at p'
    exact ⟨v, r, e1, Rep.under p'.1 h1, Reps.under p'.2 h2⟩
end
theorem Obs.under {n : Nat} {xs : List D} {o : HO} (p : D.unders n xs = true) (h : Obs K S μ H xs o) : Obs K (S.take n) (μ.take n) H xs o := by
  unfold Obs at h ⊢
  split at h
  · obtain ⟨dx, vs, e1, e2, q⟩ := h
    have p' : (true && D.unders n _) = true := p
    rw [Bool.true_and] at p'
    exact ⟨dx, vs, e1, e2, Reps.under p' q⟩
  · obtain ⟨vs, e1, q⟩ := h
    exact ⟨vs, e1, Reps.under p q⟩
mutual
theorem Rep.forget0 {S1 : Sto} {μ1 : Mu} (lv : ∀ a, Live S1 μ1 a → Live S μ a) : ∀ {d : D} {v : V}, D.under 0 d = true → Rep K S μ H d v → Rep K S1 μ1 H d v
  | .non, _, _, h => h
  | .bl _, _, _, h => h
  | .int _, _, _, h => h
  | .str _, _, _, h => h
  | .tup ds, _, p, ⟨a, vs, e1, q, r⟩ => ⟨a, vs, e1, q, Reps.forget0 lv p r⟩
  | .lst ds, _, p, ⟨a, vs, e1, q, r⟩ => ⟨a, vs, e1, q.elim (fun z => .inl ⟨z.1, fun l => z.2 (lv a l)⟩) .inr, Reps.forget0 lv p r⟩
  | .ref i, _, p, _ => by simp [D.under] at p
  | .dct, _, _, h => h
theorem Reps.forget0 {S1 : Sto} {μ1 : Mu} (lv : ∀ a, Live S1 μ1 a → Live S μ a) : ∀ {ds : List D} {vs : List V}, D.unders 0 ds = true → Reps K S μ H ds vs → Reps K S1 μ1 H ds vs
  | [], _, _, h => h
  | d :: ds, _, p, ⟨v, r, e1, h1, h2⟩ => by
    have p' : (D.under 0 d && D.unders 0 ds) = true := p
    rw [Bool.and_eq_true] at p'
    exact ⟨v, r, e1, Rep.forget0 lv p'.1 h1, Reps.forget0 lv p'.2 h2⟩
end
theorem good_take (g : Good K S μ H) (n : Nat) (cl : closedS n (S.take n) = true) : Good K (S.take n) (μ.take n) H := by
  have low : ∀ (i : Nat) (xs : List D), (S.take n)[i]? = some (some xs) → S[i]? = some (some xs) ∧ i < n := fun i xs q => by
    rw [List.getElem?_take] at q
    split at q
    · rename_i h
      exact ⟨q, h⟩
    · cases q
  refine ⟨by rw [List.length_take, List.length_take, g.len], fun i xs q => ?_, fun i j xs ys a q1 q2 m1 m2 => ?_, g.zl, fun a ha l => g.zn a ha (live0_take l)⟩
  · obtain ⟨q0, lt⟩ := low i xs q
    obtain ⟨a, vs, m, h, r⟩ := g.at_ i xs q0
    exact ⟨a, vs, by rw [List.getElem?_take, if_pos lt]; exact m, h, Obs.under (List.all_eq_true.mp cl (some xs) (List.mem_of_getElem? q)) r⟩
  · obtain ⟨q1', lt1⟩ := low i xs q1
    obtain ⟨q2', lt2⟩ := low j ys q2
    rw [List.getElem?_take, if_pos lt1] at m1
    rw [List.getElem?_take, if_pos lt2] at m2
    exact g.inj i j xs ys a q1' q2' m1 m2
theorem evo_take {n : Nat} (hn : n = μ.ps.length) (e : Evo S μ H S' μ' H') : Evo S μ H (S'.take n) (μ'.take n) H' :=
  ⟨⟨fun i a m => by
    have lt := (List.getElem?_eq_some_iff.mp m).1
    rw [List.getElem?_take, if_pos (by omega)]
    exact e.w.mu i a m, fun a o q k => ⟨(e.w.old a o q k).1, fun l => (e.w.old a o q k).2 (live_take l)⟩⟩, e.z, e.hold⟩

abbrev Mu.hold (μ : Mu) (p : Addr) : Mu := ⟨μ.ps, p :: μ.z⟩
theorem live_hold {p a : Addr} (h : Live S (μ.hold p) a) : Live S μ a ∨ a = p := by
  rcases h with h | h
  · exact .inl (.inl h)
  · rcases List.mem_cons.mp h with z | z
    · exact .inr z
    · exact .inl (.inr z)
theorem evoW_begin (g : Good K S μ H) {p : Addr} {o : HO} (h : H p = none) : EvoW S μ H S (μ.hold p) (upd H p o) :=
  ⟨fun _ _ q => q, fun a u q n => ⟨by rw [upd_ne (ne_of_none q h)]; exact q, fun l => by
    rcases live_hold l with l | l
    · exact n l
    · subst l
      rw [h] at q; cases q⟩⟩
theorem good_begin (g : Good K S μ H) {p : Addr} {vs : List V} (h : H p = none) : Good K S (μ.hold p) (upd H p (.lst vs)) := by
  have e := evoW_begin (o := .lst vs) g h
  refine ⟨g.len, fun i xs q => ?_, g.inj, fun a ha => ?_, fun a ha l => ?_⟩
  · obtain ⟨a, ws, m, hh, r⟩ := g.at_ i xs q
    exact ⟨a, ws, m, by rw [upd_ne (ne_of_none hh h)]; exact hh, r.mono g e⟩
  · rcases List.mem_cons.mp ha with z | z
    · subst z
      exact ⟨vs, upd_same⟩
    · obtain ⟨ws, q⟩ := g.zl a z
      exact ⟨ws, by rw [upd_ne (ne_of_none q h)]; exact q⟩
  · rcases List.mem_cons.mp ha with z | z
    · subst z
      exact g.none_notLive h (.inl l)
    · exact g.zn a z l
/-- one item more -/
theorem evoW_grow {p : Addr} {o : HO} (hp : p ∈ μ.z) : EvoW S μ H S μ (upd H p o) :=
  ⟨fun _ _ q => q, fun a u q n => ⟨by rw [upd_ne fun z => by subst z; exact n (.inr hp)]; exact q, n⟩⟩
theorem good_grow (g : Good K S μ H) {p : Addr} {vs : List V} (hp : p ∈ μ.z) : Good K S μ (upd H p (.lst vs)) := by
  refine ⟨g.len, fun i xs q => ?_, g.inj, fun a ha => ?_, g.zn⟩
  · obtain ⟨a, ws, m, hh, r⟩ := g.at_ i xs q
    exact ⟨a, ws, m, by rw [upd_ne fun z => by subst z; exact g.zn _ hp ⟨i, xs, q, m⟩]; exact hh, r.mono g (evoW_grow hp)⟩
  · by_cases z : a = p
    · subst z
      exact ⟨vs, upd_same⟩
    · obtain ⟨ws, q⟩ := g.zl a ha
      exact ⟨ws, by rw [upd_ne z]; exact q⟩
/-- the list is made: a value -/
theorem live_unhold {p a : Addr} (h : Live S μ a) : Live S (μ.hold p) a := h.elim .inl fun z => .inr (List.mem_cons_of_mem _ z)
theorem evoW_end {p : Addr} : EvoW S (μ.hold p) H S μ H := ⟨fun _ _ q => q, fun a u q n => ⟨q, fun l => n (live_unhold l)⟩⟩
theorem good_end (g : Good K S (μ.hold p) H) : Good K S μ H :=
  ⟨g.len, fun i xs q => by
    obtain ⟨a, ws, m, hh, r⟩ := g.at_ i xs q
    exact ⟨a, ws, m, hh, r.mono g evoW_end⟩, g.inj, fun a ha => g.zl a (List.mem_cons_of_mem _ ha), fun a ha l => g.zn a (List.mem_cons_of_mem _ ha) l⟩
/-- the list is made: a place -/
theorem good_place (g : Good K S (μ.hold p) H) (np : p ∉ μ.z) {xs : List D} {vs : List V} (hp : H p = some (.lst vs)) (r : Reps K S (μ.hold p) H xs vs) : Good K (S ++ [some xs]) (μ.more p) H ∧ EvoW S (μ.hold p) H (S ++ [some xs]) (μ.more p) H := by
  have g0 : Good K S μ H := good_end g
  have nl : ¬ Live0 S μ p := g.zn p List.mem_cons_self
  have e : EvoW S (μ.hold p) H (S ++ [some xs]) (μ.more p) H := ⟨fun i a m => get_mono m, fun a u q n => ⟨q, fun l => by
    rcases l with l | l
    · rcases live0_more g0 l with l | l
      · exact n (.inl l)
      · subst l
        exact n (.inr List.mem_cons_self)
    · exact n (.inr (List.mem_cons_of_mem _ l))⟩⟩
  have low : ∀ (i : Nat) (ys : List D), (S ++ [some xs])[i]? = some (some ys) → (S[i]? = some (some ys)) ∨ (i = S.length ∧ xs = ys) := fun i ys q => by
    rcases get_snoc q with k | ⟨k, z⟩
    · exact .inl k
    · exact .inr ⟨k, Option.some.inj z⟩
  refine ⟨⟨by rw [List.length_append, List.length_append, g0.len]; rfl, fun i ys q => ?_, fun i j ys zs a q1 q2 m1 m2 => ?_, fun a ha => g0.zl a ha, fun a ha l => ?_⟩, e⟩
  · rcases low i ys q with k | ⟨k, z⟩
    · obtain ⟨a, ws, m, ha, rr⟩ := g.at_ i ys k
      exact ⟨a, ws, get_mono m, ha, rr.mono g e⟩
    · subst z
      exact ⟨p, .lst vs, get_last (by rw [k, g0.len]), hp, Obs.of (r.mono g e)⟩
  · have pos : ∀ (i : Nat) (ys : List D), (S ++ [some xs])[i]? = some (some ys) → (μ.ps ++ [p])[i]? = some a → (S[i]? = some (some ys) ∧ μ.ps[i]? = some a) ∨ (i = S.length ∧ a = p) := fun i ys q m => by
      rcases low i ys q with k | ⟨k, _⟩
      · left
        refine ⟨k, ?_⟩
        rcases get_snoc m with z | ⟨z, _⟩
        · exact z
        · have := (List.getElem?_eq_some_iff.mp k).1
          rw [z, g0.len] at this
          exact absurd this (Nat.lt_irrefl _)
      · right
        refine ⟨k, ?_⟩
        rw [get_last (by rw [k, g0.len])] at m
        exact (Option.some.inj m).symm
    rcases pos i ys q1 m1 with ⟨k1, n1⟩ | ⟨k1, n1⟩
    · rcases pos j zs q2 m2 with ⟨k2, n2⟩ | ⟨k2, n2⟩
      · exact g0.inj i j ys zs a k1 k2 n1 n2
      · subst n2
        exact absurd ⟨i, ys, k1, n1⟩ nl
    · rcases pos j zs q2 m2 with ⟨k2, n2⟩ | ⟨k2, n2⟩
      · subst n1
        exact absurd ⟨j, zs, k2, n2⟩ nl
      · rw [k1, k2]
  · rcases live0_more g0 l with l | l
    · exact g0.zn a ha l
    · subst l
      exact np ha
end

structure RelS (K : PySem.W.Frag) (S : Sto) (μ : Mu) (H : Hp) (ρ : Env) (σ : L2.St) : Prop where
  len : ρ.length = σ.length
  at_ : ∀ (i : Nat) (d : D), ρ[i]? = some (some d) → ∃ v, σ[i]? = some (some v) ∧ Rep K S μ H d v
section
variable {K : PySem.W.Frag} {S S' : Sto} {μ μ' : Mu} {H H' : Hp} {ρ : Env} {σ : L2.St}
theorem RelS.mono (g : Good K S μ H) (e : EvoW S μ H S' μ' H') (r : RelS K S μ H ρ σ) : RelS K S' μ' H' ρ σ :=
  ⟨r.len, fun i d q => let ⟨v, h1, h2⟩ := r.at_ i d q; ⟨v, h1, h2.mono g e⟩⟩
theorem RelS.set (r : RelS K S μ H ρ σ) {d : D} {v : V} (i : Nat) (h : Rep K S μ H d v) : RelS K S μ H (ρ.set i (some d)) (σ.set i (some v)) :=
  ⟨by rw [List.length_set, List.length_set]; exact r.len, fun j c q => by
    by_cases hj : i = j
    · subst hj
      by_cases lt : i < ρ.length
      · rw [List.getElem?_set_self lt] at q
        cases q
        exact ⟨v, by rw [List.getElem?_set_self (by rw [← r.len]; exact lt)], h⟩
      · rw [List.getElem?_eq_none (by rw [List.length_set]; omega)] at q; cases q
    · rw [List.getElem?_set_ne hj] at q
      obtain ⟨w, h1, h2⟩ := r.at_ j c q
      exact ⟨w, by rw [List.getElem?_set_ne hj]; exact h1, h2⟩⟩
theorem RelS.drop (r : RelS K S μ H ρ σ) (i : Nat) : RelS K S μ H (ρ.set i none) (σ.set i none) :=
  ⟨by rw [List.length_set, List.length_set]; exact r.len, fun j c q => by
    by_cases hj : i = j
    · subst hj
      by_cases lt : i < ρ.length
      · rw [List.getElem?_set_self lt] at q; cases q
      · rw [List.getElem?_eq_none (by rw [List.length_set]; omega)] at q; cases q
    · rw [List.getElem?_set_ne hj] at q
      obtain ⟨w, h1, h2⟩ := r.at_ j c q
      exact ⟨w, by rw [List.getElem?_set_ne hj]; exact h1, h2⟩⟩
end
end Iv

set_option Elab.async false
set_option linter.all false
set_option maxRecDepth 100000
set_option maxHeartbeats 1000000
namespace Iv
open PySem PySem.Spec PyProof.Rows L2

theorem small_line {n : Nat} (h : small n = true) : n ≤ sizeLine := by
  have := of_decide_eq_true (show decide (n ≤ 100000) = true from h)
  rw [sizeLine_eq]; omega
theorem small_le {n : Nat} (h : small n = true) : n ≤ 100000 := of_decide_eq_true (show decide (n ≤ 100000) = true from h)
theorem small_lt {n : Nat} (h : small (n + 1) = true) : n < sizeLine := by
  have := small_le h
  rw [sizeLine_eq]; omega

section
variable {X : Cx} {pins : List (Addr × Obj)} {s : Shared} {σ : L2.St} {H : Hp} {S : Sto} {μ : Mu} {v w : V} {u1 u2 : Value} {Q : VK}

/-- behind an operation that makes a value -/
abbrev Cont (K : PySem.W.Frag) (S : Sto) (μ : Mu) (H : Hp) (z : D) (Q : VK) : Prop := ∀ v' H', Good K S μ H' → Evo S μ H S μ H' → Rep K S μ H' z v' → Q v' H'

theorem cont_here {K : PySem.W.Frag} {z : D} {v : V} (g : Good K S μ H) (k : Cont K S μ H z Q) (h : Rep K S μ H z v) : Q v H := k v H g (Evo.refl _ _ _) h
theorem cont_tup {K : PySem.W.Frag} {ds : List D} {vs : List V} (g : Good K S μ H) (k : Cont K S μ H (.tup ds) Q) (r : Reps K S μ H ds vs) : ∀ p, H p = none → Q (.ref p) (upd H p (.tup vs)) :=
  fun _ hp => k _ _ (good_new g hp) (evo_new g hp) (rep_tup_new g hp r)
theorem cont_lst {K : PySem.W.Frag} {ds : List D} {vs : List V} (g : Good K S μ H) (k : Cont K S μ H (.lst ds) Q) (r : Reps K S μ H ds vs) : ∀ p, H p = none → Q (.ref p) (upd H p (.lst vs)) :=
  fun _ hp => k _ _ (good_new g hp) (evo_new g hp) (rep_lst_new g hp r)

/-- list + list, both read -/
theorem cat_lists {a b : Addr} {xs ys : List V} (I : Inv X pins σ H s) (ha : SqP X.K H a xs) (hb : SqP X.K H b ys) (hz : xs.length + ys.length ≤ sizeLine) (q : ∀ p, H p = none → Q (.ref p) (upd H p (.lst (xs ++ ys)))) :
    wpAny (model X.prog X.w) X.A (binaryOp .Add (.ref a) (.ref b)) (EP X pins σ Q) X.xe s := by
  obtain ⟨z, its, n, r, hl, e⟩ := ha.plain I
  obtain ⟨z2, its2, n2, r2, hl2, e2⟩ := hb.plain I
  refine PySem.P.add_list e e2 ?_ (by rw [List.size_toArray, List.size_toArray]; omega)
  have ea : its.toArray ++ its2.toArray = (its ++ its2).toArray := by simp
  rw [ea]
  exact ⟨.ref _, _, I.lnew (t' := s.toks) (r.append r2) (by rw [List.length_append]; omega), rfl, q _ I.fresh⟩

theorem Reps.many {K : PySem.W.Frag} {S : Sto} {μ : Mu} {H : Hp} {ds : List D} {vs : List V} (h : Reps K S μ H ds vs) : ∀ m : Nat, Reps K S μ H (List.replicate m ds).flatten (List.replicate m vs).flatten
  | 0 => rfl
  | m + 1 => by
    rw [List.replicate_succ, List.replicate_succ, List.flatten_cons, List.flatten_cons]
    exact h.append (Reps.many h m)
/-- list * int, the list read -/
theorem times_list {a : Addr} {xs : List V} {j : Int} {t : Tok} (I : Inv X pins σ H s) (ha : SqP X.K H a xs) (j1 : -100000 ≤ j) (j2 : j ≤ 100000) (hz : xs.length * j.toNat ≤ sizeLine) (q : ∀ p, H p = none → Q (.ref p) (upd H p (.lst (List.replicate j.toNat xs).flatten))) :
    wpAny (model X.prog X.w) X.A (binaryOp .Mult (.ref a) (.int j t)) (EP X pins σ Q) X.xe s := by
  obtain ⟨z, us, m, r, hl, e⟩ := ha.plain I
  have hm : us.length = xs.length := r.length.symm
  have g1 : us.toArray.size * j.toNat ≤ sizeLine := by
    rw [List.size_toArray, hm]
    exact hz
  have g2 : ¬ us.toArray.size * j.toNat > (2 ^ 63 - 1) / 8 := by
    have z0 := sizeLine_eq
    omega
  have g3 : ¬ (!Builtin.List.listFitsIndex j) = true := by rw [fitsIndex_both (by omega) (by omega)]; exact Bool.false_ne_true
  have g4 : ¬ Builtin.List.listTooLong (us.toArray.size * j.toNat) = true := by rw [notLongL g1]; exact Bool.false_ne_true
  have g5 : ∀ m : Nat, List.foldl (fun x1 x2 => x1 ++ x2) #[] (List.replicate m us.toArray) = (List.replicate m us).flatten.toArray := fun m => by
    have := foldl_rep us m []
    simpa using this
  have g6 : List.foldl (fun x1 x2 => x1 ++ x2) #[] (List.replicate (if us.toArray.isEmpty = true then 0 else j.toNat) us.toArray) = (List.replicate j.toNat us).flatten.toArray := by
    rw [g5]
    by_cases hu : us = []
    · subst hu; simp
    · rw [if_neg (by simpa using hu)]
  refine wpAny_binaryOp_repeat_ref (T := "list") (U := "int") (by decide) ⟨_, e, rfl⟩ (fun st => typeIs_int st j t) noFill_list_mul F.fills_int_mul F.slot_int_rmul repeat_list F.slot_int_index.lookup ?_
  refine call_meets F.slot_int_rmul (typeIs_int s j t) F.entry_int_rmul (F.args_int_rmul_2 _ _) (int___rmul___int_list j t a us.toArray m) ⟨e, rfl, ⟨_, e, rfl⟩, ?_⟩
  refine call_meets F.slot_list_mul ⟨_, e, rfl⟩ F.entry_list_mul (F.args_list_mul_2 _ _) (AutoListH.list___mul___list_int_3 a us.toArray m j t g3 g2 g4) ⟨e, ?_⟩
  rw [g6]
  refine ⟨.ref _, _, I.lnew (t' := s.toks) (r.rep j.toNat) ?_, rfl, q _ I.fresh⟩
  rw [PyProof.Rows.lm_len_rep_flat, Nat.mul_comm]
  exact hz

/-- tuple + tuple -/
theorem cat_tups {a b : Addr} {xs ys : List V} (I : Inv X pins σ H s) (ha : SqT X.K H a xs) (hb : SqT X.K H b ys) (hz : xs.length + ys.length ≤ sizeLine) (q0 : xs = [] → Q (.ref b) H) (q1 : ys = [] → Q (.ref a) H)
    (q : ∀ p, H p = none → Q (.ref p) (upd H p (.tup (xs ++ ys)))) :
    wpAny (model X.prog X.w) X.A (binaryOp .Add (.ref a) (.ref b)) (EP X pins σ Q) X.xe s := by
  by_cases h : xs = []
  · subst h
    obtain ⟨its, r, ⟨⟨cls, dd, data, sl⟩, ho, hc, n, hd⟩, _⟩ := I.tuple ha
    obtain ⟨its2, r2, ⟨⟨cls2, dd2, data2, sl2⟩, ho2, hc2, n2, hd2⟩, _⟩ := I.tuple hb
    simp only at hc hd hc2 hd2
    subst hc hd hc2 hd2
    cases r
    exact concat_meets ⟨_, ho, rfl⟩ ⟨_, ho2, rfl⟩ noFill_tuple_add seq_tuple_add PySem.F.slot_tuple_add PySem.F.entry_tuple_add (PySem.F.args_tuple_add_2 _ _)
      (tuple_addW0 a b _ its2.toArray n n2 dd dd2 sl sl2 (by simp)) ⟨ho, ho2, ⟨.ref b, H, I.tok _, rfl, q0 rfl⟩⟩
  · exact op_catT pins s σ H (.ref a) (.ref b) _ _ Q I rfl rfl ⟨a, b, xs, ys, rfl, rfl, ha, hb, h, hz, q1, fun _ => q⟩

theorem natAbs_log {i : Int} {k : Nat} (h : i.natAbs < 2 ^ k) (hk : 0 < k) : i.natAbs.log2 < k := PySem.Flt.log2_lt_of hk h

theorem rep_size : ∀ (n : Nat) (a acc : Array Nat), ((List.replicate n a).foldl (· ++ ·) acc).size = acc.size + n * a.size
  | 0, a, acc => by simp
  | n + 1, a, acc => by
    rw [List.replicate_succ, List.foldl_cons, rep_size n a (acc ++ a), Array.size_append, Nat.succ_mul]
    omega
/-- a op b -/
theorem opD_run {o : Operator} {x y z : D} (e : opD o x y = some z) (I : Inv X pins σ H s) (g : Good X.K S μ H) (hx : Seen X.K S μ H x v) (hy : Seen X.K S μ H y w) (r1 : RelV v u1) (r2 : RelV w u2) (k : Cont X.K S μ H z Q) :
    wpAny (model X.prog X.w) X.A (binaryOp o u1 u2) (EP X pins σ Q) X.xe s := by
  unfold opD at e
  split at e
  · cases e
    cases (show v = V.int _ from hx); cases (show w = V.int _ from hy)
    exact op_add pins s σ H _ _ u1 u2 Q I r1 r2 ⟨_, _, rfl, rfl, cont_here g k rfl⟩
  · cases e
    cases (show v = V.int _ from hx); cases (show w = V.int _ from hy)
    exact op_sub pins s σ H _ _ u1 u2 Q I r1 r2 ⟨_, _, rfl, rfl, cont_here g k rfl⟩
  · split at e
    · rename_i h
      cases e
      rw [Bool.or_eq_true, Bool.or_eq_true, Bool.and_eq_true, decide_eq_true_eq, decide_eq_true_eq, decide_eq_true_eq, decide_eq_true_eq] at h
      cases (show v = V.int _ from hx); cases (show w = V.int _ from hy)
      rcases h with h | h
      · exact op_mul pins s σ H _ _ u1 u2 Q I r1 r2 ⟨_, _, rfl, rfl, h.elim (fun z => .inl ⟨by omega, by omega⟩) (fun z => .inr ⟨by omega, by omega⟩), cont_here g k rfl⟩
      exact op_mulW pins s σ H _ _ u1 u2 Q I r1 r2 ⟨_, _, rfl, rfl, wide_mul h.1 h.2 (by decide) (by decide) (by decide), cont_here g k rfl⟩
    · cases e
  · split at e
    · rename_i h
      cases e
      rw [Bool.and_eq_true, decide_eq_true_eq, decide_eq_true_eq] at h
      cases (show v = V.int _ from hx); cases (show w = V.int _ from hy)
      exact op_fdivW pins s σ H _ _ u1 u2 Q I r1 r2 ⟨_, _, rfl, rfl, wide_div h.1 h.2 (by decide) (by decide), cont_here g k rfl⟩
    · cases e
  · split at e
    · rename_i h
      cases e
      rw [decide_eq_true_eq] at h
      cases (show v = V.int _ from hx); cases (show w = V.int _ from hy)
      exact op_mod pins s σ H _ _ u1 u2 Q I r1 r2 ⟨_, _, rfl, rfl, h, cont_here g k rfl⟩
    · cases e
  · split at e
    · rename_i h
      cases e
      rw [Bool.and_eq_true, Bool.and_eq_true, decide_eq_true_eq, decide_eq_true_eq, decide_eq_true_eq] at h
      cases (show v = V.int _ from hx); cases (show w = V.int _ from hy)
      exact op_pow pins s σ H _ _ u1 u2 Q I r1 r2 ⟨_, _, rfl, rfl, ⟨h.1.1, by have := h.1.2; omega, h.2⟩, cont_here g k rfl⟩
    · cases e
  · split at e
    · rename_i h
      cases e
      cases (show v = V.str _ from hx); cases (show w = V.str _ from hy)
      exact op_add_str pins s σ H _ _ u1 u2 Q I r1 r2 ⟨_, _, rfl, rfl, small_line h, cont_here g k rfl⟩
    · cases e
  · split at e
    · rename_i h
      cases e
      obtain ⟨a, vs, rfl, qa, ra⟩ := hx
      obtain ⟨b, ws, rfl, qb, rb⟩ := hy
      cases r1; cases r2
      have hl := small_line h
      rw [ra.length, rb.length] at hl
      refine cat_tups I qa qb hl (fun z => ?_) (fun z => ?_) (cont_tup g k (ra.append rb))
      · subst z
        have e0 := ra.length
        rw [List.length_nil, List.length_eq_zero_iff] at e0
        subst e0
        exact cont_here g k ⟨b, ws, rfl, qb, rb⟩
      · subst z
        have e0 := rb.length
        rw [List.length_nil, List.length_eq_zero_iff] at e0
        subst e0
        exact cont_here g k ⟨a, vs, rfl, qa, by rw [List.append_nil]; exact ra⟩
    · cases e
  · split at e
    · rename_i h
      cases e
      obtain ⟨a, vs, rfl, qa, ra⟩ := hx
      obtain ⟨b, ws, rfl, qb, rb⟩ := hy
      cases r1; cases r2
      have hl := small_line h
      rw [ra.length, rb.length] at hl
      exact cat_lists I qa qb hl (cont_lst g k (ra.append rb))
    · cases e
  · split at e
    · rename_i h
      cases e
      rw [Bool.and_eq_true, Bool.and_eq_true, Bool.and_eq_true, decide_eq_true_eq, decide_eq_true_eq, decide_eq_true_eq, decide_eq_true_eq] at h
      obtain ⟨a, vs, rfl, qa, ra⟩ := hx
      cases (show w = V.int _ from hy)
      have hl := ra.length
      refine op_repT pins s σ H _ _ u1 u2 Q I r1 r2 ⟨a, _, vs, rfl, rfl, qa, fun z => ?_, h.2.1, h.2.2, by omega, cont_tup g k (ra.many _)⟩
      rw [z] at hl
      have := h.1.1
      simp only [List.length_nil] at hl
      omega
    · cases e
  · split at e
    · rename_i x n h
      cases e
      rw [Bool.and_eq_true, Bool.and_eq_true, Bool.and_eq_true, decide_eq_true_eq, decide_eq_true_eq, decide_eq_true_eq] at h
      obtain ⟨hz, h0, h2, h3⟩ := h
      cases (show v = V.str _ from hx)
      cases (show w = V.int _ from hy)
      obtain ⟨t, rfl⟩ := r1
      obtain ⟨t2, rfl⟩ := r2
      have hz2 := small_le hz
      have hz3 := small_line hz
      have lt : ((x.length : Nat) : Int) ≤ 100000 := by
        have : x.length ≤ x.length * n.toNat := Nat.le_mul_of_pos_right _ (by omega)
        omega
      refine PySem.P.mul_str ?_ (fun _ _ => ?_) (fun _ _ => ?_) ?_
      · rw [decide_eq_false (by omega), decide_eq_false (by omega)]; rfl
      · have d1 : (9223372036854775807 : Int) / 1000 ≤ 9223372036854775807 / n := by
          apply Int.le_ediv_of_mul_le (by omega)
          have : (9223372036854775807 : Int) / 1000 * n ≤ 9223372036854775807 / 1000 * 1000 := Int.mul_le_mul_of_nonneg_left h3 (by decide)
          omega
        have d2 : (9223372036854775807 : Int) / 1000 = 9223372036854775 := by decide
        rw [d2] at d1
        show ¬ ((x.length : Int) > 9223372036854775807 / n)
        omega
      · show decide (x.length * n.toNat > sizeLine) = false
        rw [decide_eq_false (by omega)]
      · rw [if_neg (by omega), if_neg (by
          rw [Bool.or_eq_true]
          rintro (z | z)
          · have := eq_of_beq z; omega
          · have := eq_of_beq z; omega)]
        exact ⟨by show Array.size _ ≤ _; rw [rep_size, Array.size_empty, Nat.zero_add, Nat.mul_comm]; exact hz3, V.str _, H, I.tok _, ⟨_, rfl⟩, cont_here g k rfl⟩
    · cases e
  · split at e
    · rename_i h
      cases e
      rw [Bool.and_eq_true, Bool.and_eq_true, decide_eq_true_eq, decide_eq_true_eq] at h
      obtain ⟨a, vs, rfl, qa, ra⟩ := hx
      cases (show w = V.int _ from hy)
      cases r1
      obtain ⟨t, rfl⟩ := r2
      have hl := small_line h.1
      rw [ra.length] at hl
      exact times_list I qa h.2.1 h.2.2 hl (cont_lst g k (ra.many _))
    · cases e
  · cases e

section
open PySem.MeetsSeq PySem.AutoSeq1
theorem str_eq_declines_dict (b : Str) (u : Tok) (l : Addr) (c : Value) (es : Array DictEntry) (n : Nat) (dd : Option Addr) (sl : Array (Option Value)) :
    Meets (Builtin.«str.__eq__» ⟨[.str b u, .ref l], []⟩) (fun _ R s => s.heap.get? l = some { cls := c, dict := dd, data := .dict es n, slots := sl } ∧ R (.ok (.ret .notImplemented)) s) :=
  .of_wp fun prog w A R s h => by obtain ⟨hp, g, d, tk, os⟩ := s; obtain ⟨hl, h⟩ := h; wp_walk using wpAny_loadPart' hl, wpAny_load hl; exact ⟨_, rfl, h⟩
theorem dict_eq_declines_str (l : Addr) (es : Array DictEntry) (n : Nat) (dd : Option Addr) (sl : Array (Option Value)) (b : Str) (u : Tok) :
    Meets (Builtin.«dict.__eq__» ⟨[.ref l, .str b u], []⟩) (fun _ R s => s.heap.get? l = some { cls := .type "dict", dict := dd, data := .dict es n, slots := sl } ∧ R (.ok (.ret .notImplemented)) s) :=
  .of_wp fun prog w A R s h => by obtain ⟨hp, g, d, tk, os⟩ := s; obtain ⟨hl, h⟩ := h; have f1 := PySem.F.sub_str_dict; wp_walk using wpAny_loadPart' hl; exact ⟨_, rfl, h⟩
theorem RcAt_str_dict {A : Around} {s : Shared} {l : Addr} {o : Obj} {es : Array DictEntry} {n : Nat} (b : Str) (u : Tok) (ho : s.heap.get? l = some o) (hc : o.cls = .type "dict") (hd : o.data = .dict es n) (hu : A.units < cLine) : SeqAt.RcAt A s (.str b u) (.ref l) false := fun prog w E Q h => by
  obtain ⟨cls, dd, data, sl⟩ := o
  simp only at hc hd
  subst hc hd
  exact SeqAt.rc_eq_decline_or (k := false) (typeIs_str s b u) ⟨_, ho, rfl⟩ (by decide) PySem.F.sub_dict_str PySem.F.slot_str_eq PySem.F.slot_dict_eq_refl
    (fun _ hq => call_meets PySem.F.slot_str_eq (typeIs_str s b u) PySem.F.entry_str_eq (PySem.F.args_str_eq_2 _ _) (str_eq_declines_dict b u l (.type "dict") es n dd sl) ⟨ho, hq⟩)
    (fun _ hq => call_meets PySem.F.slot_dict_eq_refl ⟨_, ho, rfl⟩ PySem.F.entry_dict_eq (PySem.F.args_dict_eq_2 _ _) (dict_eq_declines_str l es n dd sl b u) ⟨ho, hq⟩)
    (fun _ hq => wpAny_of_eq (rfl : isSame (.str b u) (.ref l) = pure false) hq) (.inr hu) h
theorem EqAt_str_dict {A : Around} {s : Shared} {l : Addr} {o : Obj} {es : Array DictEntry} {n : Nat} (b : Str) (u : Tok) (ho : s.heap.get? l = some o) (hc : o.cls = .type "dict") (hd : o.data = .dict es n) (hu : A.units < cLine) : SeqAt.EqAt A s (.str b u) (.ref l) false := fun prog w E Q h => by
  unfold eqBool
  refine wpAny_holding ?_
  refine wpAny_ite_split (fun hab => absurd (eq_of_beq hab) nofun) (fun _ => ?_)
  exact wpAny_bind (RcAt_str_dict b u ho hc hd hu prog w E _ (wpAny_truthy_bool h))
end
theorem strs_vals {K : PySem.W.Frag} {S : Sto} {μ : Mu} {H : Hp} : ∀ {ys : List D} {vs : List V} {us : List Value}, ys.all D.isStr = true → Reps K S μ H ys vs → Vals vs us → ∀ z ∈ us, ∃ b t, z = Value.str b t
  | [], _, _, _, h, r => by
    cases (show _ = [] from h)
    cases r
    exact fun z hz => by cases hz
  | d :: ys, _, _, f, ⟨v, r, e, h1, h2⟩, rv => by
    subst e
    rw [List.all_cons, Bool.and_eq_true] at f
    cases rv with
    | cons r1 r2 =>
      intro z hz
      rcases List.mem_cons.mp hz with hz | hz
      · subst hz
        cases d with
        | str x =>
          cases (show v = V.str x from h1)
          obtain ⟨t, e⟩ := r1
          exact ⟨x, t, e⟩
        | _ => cases f.1
      · exact strs_vals f.2 h2 r2 z hz
/-- a dict among texts -/
theorem dctIn_run (hu : X.A.units + 190 < cLine) {x : D} {ys : List D} (fx : x.isDct = true) (fy : ys.all D.isStr = true) (I : Inv X pins σ H s) (hx : Seen X.K S μ H x v) (hy : Seen X.K S μ H (.tup ys) w) (r1 : RelV v u1) (r2 : RelV w u2) :
    (Q (.bl false) H → wpAny (model X.prog X.w) X.A (compareOp .In u1 u2) (EP X pins σ Q) X.xe s) ∧ (Q (.bl true) H → wpAny (model X.prog X.w) X.A (compareOp .NotIn u1 u2) (EP X pins σ Q) X.xe s) := by
  cases x with
  | dct =>
    obtain ⟨a, kvs, rfl, ha⟩ := hx
    obtain ⟨b, vs, rfl, qb, rb⟩ := hy
    cases r1
    cases r2
    obtain ⟨_, _, es0, _, o, es, ep, ho, hc, hd, _⟩ := dk_of I.hok ha
    obtain ⟨its, rv, ht, _⟩ := I.tuple qb
    have hz := strs_vals fy rb rv
    have hu1 : X.A.in1.units < cLine := by show X.A.units + 1 < cLine; omega
    have he : ∀ y, y ∈ its.toArray → SeqAt.EqAt X.A.in1 s y (.ref a) ((fun _ => false) y) := fun y hy => by
      obtain ⟨c, t, rfl⟩ := hz y (by simpa using hy)
      exact EqAt_str_dict c t ho hc.1 hd hu1
    have hf : its.toArray.any (fun _ => false) = false := by simp
    exact ⟨fun q => SeqAt.in_tupleAt _ ht he ⟨.bl _, H, I, rfl, by rw [hf]; exact q⟩, fun q => SeqAt.notIn_tupleAt _ ht he ⟨.bl _, H, I, rfl, by rw [hf]; exact q⟩⟩
  | _ => cases fx
theorem any_py (x : D) : ∀ ys : List D, ((D.pys ys).any fun y => PyData.eqv y x.py) = inFlat x ys
  | [] => rfl
  | y :: ys => by
    have ih := any_py x ys
    unfold inFlat at ih ⊢
    show ((D.py y :: D.pys ys).any _) = _
    rw [List.any_cons, List.any_cons, ih]
    rfl
/-- data among data -/
theorem okIn_run (hu : X.A.units + 190 < cLine) {x : D} {ys : List D} (ox : x.ok = true) (oy : (D.tup ys).ok = true) (I : Inv X pins σ H s) (hx : Seen X.K S μ H x v) (hy : Seen X.K S μ H (.tup ys) w) (r1 : RelV v u1) (r2 : RelV w u2) :
    (Q (.bl (inFlat x ys)) H → wpAny (model X.prog X.w) X.A (compareOp .In u1 u2) (EP X pins σ Q) X.xe s) ∧ (Q (.bl (!inFlat x ys)) H → wpAny (model X.prog X.w) X.A (compareOp .NotIn u1 u2) (EP X pins σ Q) X.xe s) := by
  unfold D.ok at ox oy
  rw [Bool.and_eq_true, Bool.and_eq_true, decide_eq_true_eq] at ox oy
  obtain ⟨as, d1⟩ := Dp.reads I x.py v u1 (hx.dp ox.1.1) r1
  obtain ⟨bs, d2⟩ := Dp.reads I (D.tup ys).py w u2 (hy.dp oy.1.1) r2
  have c2 : PyData.canLayAll0 (D.pys ys) = true := by
    have z := oy.1.2
    simpa [D.py, PyData.canLay0] using z
  have hd : PyData.depthAll (D.pys ys) + 1 ≤ 190 := by
    have z := oy.2
    simpa [D.py, PyData.depth] using z
  have room : X.A.units + 1 + min (PyData.depthAll (D.pys ys)) x.py.depth < cLine := by
    have h2 : min (PyData.depthAll (D.pys ys)) x.py.depth ≤ PyData.depthAll (D.pys ys) := Nat.min_le_left _ _
    omega
  have d2' : Reads s.heap u2 (.tuple (D.pys ys)) bs := by
    have z := d2
    rw [D.py] at z
    exact z
  exact ⟨fun q => SeqAt.in_tuple_reads d2' d1 c2 ox.1.2 room (by rw [any_py]; exact ⟨.bl _, H, I, rfl, q⟩), fun q => SeqAt.notIn_tuple_reads d2' d1 c2 ox.1.2 room (by rw [any_py]; exact ⟨.bl _, H, I, rfl, q⟩)⟩
/-- == of data -/
theorem eqD_run (hu : X.A.units + 190 < cLine) {x y : D} (ox : x.ok = true) (oy : y.ok = true) (I : Inv X pins σ H s) (hx : Seen X.K S μ H x v) (hy : Seen X.K S μ H y w) (r1 : RelV v u1) (r2 : RelV w u2) (q : Q (.bl (D.eqv x y)) H) :
    wpAny (model X.prog X.w) X.A (compareOp .Eq u1 u2) (EP X pins σ Q) X.xe s := by
  unfold D.ok at ox oy
  rw [Bool.and_eq_true, Bool.and_eq_true, decide_eq_true_eq] at ox oy
  obtain ⟨as, d1⟩ := Dp.reads I x.py v u1 (hx.dp ox.1.1) r1
  obtain ⟨bs, d2⟩ := Dp.reads I y.py w u2 (hy.dp oy.1.1) r2
  refine SeqAt.compareEq_reads d1 d2 ox.1.2 oy.1.2 ?_ ⟨.bl _, H, I, rfl, q⟩
  have h1 := ox.2
  have h2 : min x.py.depth y.py.depth ≤ x.py.depth := Nat.min_le_left _ _
  omega
theorem neD_run (hu : X.A.units + 190 < cLine) {x y : D} (ox : x.ok = true) (oy : y.ok = true) (I : Inv X pins σ H s) (hx : Seen X.K S μ H x v) (hy : Seen X.K S μ H y w) (r1 : RelV v u1) (r2 : RelV w u2) (q : Q (.bl (!D.eqv x y)) H) :
    wpAny (model X.prog X.w) X.A (compareOp .NotEq u1 u2) (EP X pins σ Q) X.xe s := by
  unfold D.ok at ox oy
  rw [Bool.and_eq_true, Bool.and_eq_true, decide_eq_true_eq] at ox oy
  obtain ⟨as, d1⟩ := Dp.reads I x.py v u1 (hx.dp ox.1.1) r1
  obtain ⟨bs, d2⟩ := Dp.reads I y.py w u2 (hy.dp oy.1.1) r2
  refine SeqAt.compareNe_reads d1 d2 ox.1.2 oy.1.2 ?_ ⟨.bl _, H, I, rfl, q⟩
  have h1 := ox.2
  have h2 : min x.py.depth y.py.depth ≤ x.py.depth := Nat.min_le_left _ _
  omega

theorem Seen.flat {x : D} (f : x.flat = true) (h : Seen X.K S μ H x v) : Rep X.K S μ H x v := by
  cases x with
  | lst _ => cases f
  | tup _ => cases f
  | ref _ => cases f
  | cl _ _ => cases f
  | dct => cases f
  | non => exact h
  | bl _ => exact h
  | int _ => exact h
  | str _ => exact h
theorem one_sign {c : Str} (h : (c.length == 1) = true) : c = ⟨#[c.cps.getD 0 0]⟩ := by
  obtain ⟨cps⟩ := c
  have e : cps.size = 1 := by simpa [Str.length] using h
  obtain ⟨l⟩ := cps
  simp only [List.size_toArray] at e
  match l, e with
  | [a], _ => rfl
theorem ordD_run (hu : X.A.units + 190 < cLine) {o : CmpOp} {r : PyData → PyData → Bool} {x y : D} {b : Bool} (e : ordD r x y = some b)
    (rule : ∀ {da db : PyData} {as bs : List Addr}, Reads s.heap u1 da as → Reads s.heap u2 db bs → PySem.W.alike da db = true → da ≠ .none → X.A.units + min da.depth db.depth < cLine → EP X pins σ Q (.bool (r da db)) s → wpAny (model X.prog X.w) X.A (compareOp o u1 u2) (EP X pins σ Q) X.xe s)
    (I : Inv X pins σ H s) (hx : Seen X.K S μ H x v) (hy : Seen X.K S μ H y w) (r1 : RelV v u1) (r2 : RelV w u2) (q : Q (.bl b) H) :
    wpAny (model X.prog X.w) X.A (compareOp o u1 u2) (EP X pins σ Q) X.xe s := by
  unfold ordD at e
  split at e
  · rename_i h
    cases e
    rw [Bool.and_eq_true, Bool.and_eq_true, Bool.and_eq_true] at h
    obtain ⟨⟨ox, oy⟩, al, sq⟩ := h
    have ne : x.py ≠ .none := fun z => by cases x <;> first | (cases sq; done) | (simp [D.py] at z)
    unfold D.ok at ox oy
    rw [Bool.and_eq_true, Bool.and_eq_true, decide_eq_true_eq] at ox oy
    obtain ⟨as, d1⟩ := Dp.reads I x.py v u1 (hx.dp ox.1.1) r1
    obtain ⟨bs, d2⟩ := Dp.reads I y.py w u2 (hy.dp oy.1.1) r2
    refine rule d1 d2 al ne ?_ ⟨.bl _, H, I, rfl, q⟩
    have h1 := ox.2
    have h2 : min x.py.depth y.py.depth ≤ x.py.depth := Nat.min_le_left _ _
    omega
  · cases e
/-- a op b, compared -/
theorem cmpD_run (hu : X.A.units + 190 < cLine) {o : CmpOp} {x y : D} {b : Bool} (e : cmpD o x y = some b) (I : Inv X pins σ H s) (hx : Seen X.K S μ H x v) (hy : Seen X.K S μ H y w) (r1 : RelV v u1) (r2 : RelV w u2) (q : Q (.bl b) H) :
    wpAny (model X.prog X.w) X.A (compareOp o u1 u2) (EP X pins σ Q) X.xe s := by
  cases o with
  | Eq =>
    simp only [cmpD] at e
    split at e
    · cases e
      cases (show v = V.int _ from hx); cases (show w = V.int _ from hy)
      refine op_eq pins s σ H _ _ u1 u2 Q I r1 r2 ⟨rfl, ?_⟩
      rw [show decide (V.int _ = V.int _) = decide (_ = _) from decide_eq_decide.mpr ⟨fun z => V.int.inj z, fun z => congrArg V.int z⟩]
      exact q
    · cases e
      cases (show v = V.str _ from hx); cases (show w = V.str _ from hy)
      refine op_eq pins s σ H _ _ u1 u2 Q I r1 r2 ⟨rfl, ?_⟩
      rw [show decide (V.str _ = V.str _) = decide (_ = _) from decide_eq_decide.mpr ⟨fun z => V.str.inj z, fun z => congrArg V.str z⟩]
      exact q
    · split at e
      · rename_i h
        cases e
        rw [Bool.and_eq_true] at h
        exact eqD_run hu h.1 h.2 I hx hy r1 r2 q
      · cases e
  | NotEq =>
    simp only [cmpD] at e
    split at e
    · cases e
      cases (show v = V.int _ from hx); cases (show w = V.int _ from hy)
      refine op_ne pins s σ H _ _ u1 u2 Q I r1 r2 ⟨rfl, ?_⟩
      rw [show decide (V.int _ = V.int _) = decide (_ = _) from decide_eq_decide.mpr ⟨fun z => V.int.inj z, fun z => congrArg V.int z⟩]
      exact q
    · cases e
      cases (show v = V.str _ from hx); cases (show w = V.str _ from hy)
      refine op_ne pins s σ H _ _ u1 u2 Q I r1 r2 ⟨rfl, ?_⟩
      rw [show decide (V.str _ = V.str _) = decide (_ = _) from decide_eq_decide.mpr ⟨fun z => V.str.inj z, fun z => congrArg V.str z⟩]
      exact q
    · split at e
      · rename_i h
        cases e
        rw [Bool.and_eq_true] at h
        exact neD_run hu h.1 h.2 I hx hy r1 r2 q
      · cases e
  | Lt =>
    simp only [cmpD] at e
    split at e
    · cases e
      cases (show v = V.int _ from hx); cases (show w = V.int _ from hy)
      exact op_lt pins s σ H _ _ u1 u2 Q I r1 r2 ⟨_, _, rfl, rfl, q⟩
    · exact ordD_run hu e (fun a1 a2 a3 a4 a5 a6 => PySem.W.lt_data a1 a2 a3 a4 a5 a6) I hx hy r1 r2 q
  | LtE =>
    simp only [cmpD] at e
    split at e
    · cases e
      cases (show v = V.int _ from hx); cases (show w = V.int _ from hy)
      exact op_le pins s σ H _ _ u1 u2 Q I r1 r2 ⟨_, _, rfl, rfl, q⟩
    · exact ordD_run hu e (fun a1 a2 a3 a4 a5 a6 => PySem.W.le_data a1 a2 a3 a4 a5 a6) I hx hy r1 r2 q
  | Gt =>
    simp only [cmpD] at e
    split at e
    · cases e
      cases (show v = V.int _ from hx); cases (show w = V.int _ from hy)
      exact op_gt pins s σ H _ _ u1 u2 Q I r1 r2 ⟨_, _, rfl, rfl, q⟩
    · exact ordD_run hu e (fun a1 a2 a3 a4 a5 a6 => PySem.W.gt_data a1 a2 a3 a4 a5 a6) I hx hy r1 r2 q
  | GtE =>
    simp only [cmpD] at e
    split at e
    · cases e
      cases (show v = V.int _ from hx); cases (show w = V.int _ from hy)
      exact op_ge pins s σ H _ _ u1 u2 Q I r1 r2 ⟨_, _, rfl, rfl, q⟩
    · exact ordD_run hu e (fun a1 a2 a3 a4 a5 a6 => PySem.W.ge_data a1 a2 a3 a4 a5 a6) I hx hy r1 r2 q
  | Is =>
    simp only [cmpD] at e
    split at e
    · cases e
      cases (show v = V.bl _ from hx); cases (show w = V.bl _ from hy)
      exact op_isBl pins s σ H _ _ u1 u2 Q I r1 r2 ⟨_, _, rfl, rfl, q⟩
    · cases e
      cases (show v = V.non from hx); cases (show w = V.non from hy)
      exact op_isN pins s σ H _ _ u1 u2 Q I r1 r2 ⟨rfl, q⟩
    · rename_i hne
      cases e
      cases (show w = V.non from hy)
      have hv : v ≠ V.non := by
        intro z
        subst z
        cases x with
        | non => exact hne rfl
        | bl _ => cases (show V.non = V.bl _ from hx)
        | int _ => cases (show V.non = V.int _ from hx)
        | str _ => cases (show V.non = V.str _ from hx)
        | tup _ => obtain ⟨_, _, e, _⟩ := hx; cases e
        | lst _ => obtain ⟨_, _, e, _⟩ := hx; cases e
        | ref _ => obtain ⟨_, e, _⟩ := hx; cases e
        | cl _ _ => exact hx
        | dct => obtain ⟨_, _, e, _⟩ := hx; cases e
      exact op_isN pins s σ H _ _ u1 u2 Q I r1 r2 ⟨rfl, by rw [decide_eq_false hv]; exact q⟩
    · cases e
  | IsNot =>
    simp only [cmpD] at e
    split at e
    · cases e
      cases (show v = V.bl _ from hx); cases (show w = V.bl _ from hy)
      exact op_notBl pins s σ H _ _ u1 u2 Q I r1 r2 ⟨_, _, rfl, rfl, q⟩
    · cases e
      cases (show v = V.non from hx); cases (show w = V.non from hy)
      exact op_notN pins s σ H _ _ u1 u2 Q I r1 r2 ⟨rfl, q⟩
    · rename_i hne
      cases e
      cases (show w = V.non from hy)
      have hv : v ≠ V.non := by
        intro z
        subst z
        cases x with
        | non => exact hne rfl
        | bl _ => cases (show V.non = V.bl _ from hx)
        | int _ => cases (show V.non = V.int _ from hx)
        | str _ => cases (show V.non = V.str _ from hx)
        | tup _ => obtain ⟨_, _, e, _⟩ := hx; cases e
        | lst _ => obtain ⟨_, _, e, _⟩ := hx; cases e
        | ref _ => obtain ⟨_, e, _⟩ := hx; cases e
        | cl _ _ => exact hx
        | dct => obtain ⟨_, _, e, _⟩ := hx; cases e
      exact op_notN pins s σ H _ _ u1 u2 Q I r1 r2 ⟨rfl, by rw [decide_eq_false hv]; exact q⟩
    · cases e
  | In =>
    simp only [cmpD] at e
    split at e
    · split at e
      · rename_i h
        cases e
        rw [Bool.and_eq_true] at h
        obtain ⟨a, vs, rfl, qa, ra⟩ := hy
        have f := flat_rep h.1 (hx.flat h.1)
        refine op_in_seq pins s σ H _ _ u1 u2 Q I r1 r2 ⟨a, vs, rfl, .inl qa.l, f.1, flats_rep h.2 ra, ?_⟩
        rw [if_neg Bool.false_ne_true, inV_flat h.1 (hx.flat h.1) h.2 ra]
        exact q
      · cases e
    · split at e
      · rename_i h
        cases e
        rw [Bool.and_eq_true] at h
        obtain ⟨a, vs, rfl, qa, ra⟩ := hy
        have f := flat_rep h.1 (hx.flat h.1)
        refine op_in_seq pins s σ H _ _ u1 u2 Q I r1 r2 ⟨a, vs, rfl, .inr qa, f.1, flats_rep h.2 ra, ?_⟩
        rw [if_neg Bool.false_ne_true, inV_flat h.1 (hx.flat h.1) h.2 ra]
        exact q
      · split at e
        · rename_i h
          cases e
          rw [Bool.and_eq_true] at h
          exact (okIn_run hu h.1 h.2 I hx hy r1 r2).1 q
        · split at e
          · rename_i h
            cases e
            rw [Bool.and_eq_true] at h
            exact (dctIn_run hu h.1 h.2 I hx hy r1 r2).1 q
          · cases e
    · split at e
      · split at e
        · rename_i h
          cases e
          cases (show v = V.str _ from hx); cases (show w = V.str _ from hy)
          exact op_in_sign pins s σ H _ _ u1 u2 Q I r1 r2 ⟨_, _, congrArg V.str (one_sign h), rfl, q⟩
        · cases e
      · cases e
    · cases e
  | NotIn =>
    simp only [cmpD] at e
    split at e
    · split at e
      · rename_i h
        cases e
        rw [Bool.and_eq_true] at h
        obtain ⟨a, vs, rfl, qa, ra⟩ := hy
        have f := flat_rep h.1 (hx.flat h.1)
        refine op_notIn_seq pins s σ H _ _ u1 u2 Q I r1 r2 ⟨a, vs, rfl, .inl qa.l, f.1, flats_rep h.2 ra, ?_⟩
        rw [if_pos rfl, inV_flat h.1 (hx.flat h.1) h.2 ra]
        exact q
      · cases e
    · split at e
      · rename_i h
        cases e
        rw [Bool.and_eq_true] at h
        obtain ⟨a, vs, rfl, qa, ra⟩ := hy
        have f := flat_rep h.1 (hx.flat h.1)
        refine op_notIn_seq pins s σ H _ _ u1 u2 Q I r1 r2 ⟨a, vs, rfl, .inr qa, f.1, flats_rep h.2 ra, ?_⟩
        rw [if_pos rfl, inV_flat h.1 (hx.flat h.1) h.2 ra]
        exact q
      · split at e
        · rename_i h
          cases e
          rw [Bool.and_eq_true] at h
          exact (okIn_run hu h.1 h.2 I hx hy r1 r2).2 q
        · split at e
          · rename_i h
            cases e
            rw [Bool.and_eq_true] at h
            exact (dctIn_run hu h.1 h.2 I hx hy r1 r2).2 q
          · cases e
    · split at e
      · split at e
        · rename_i h
          cases e
          cases (show v = V.str _ from hx); cases (show w = V.str _ from hy)
          exact op_notIn_sign pins s σ H _ _ u1 u2 Q I r1 r2 ⟨_, _, congrArg V.str (one_sign h), rfl, q⟩
        · cases e
      · cases e
    · cases e

theorem Reps.atI {ds : List D} {vs : List V} (h : Reps X.K S μ H ds vs) {i : Int} {d : D} (e : atI ds i = some d) : ∃ v, L2.atI vs i = some v ∧ Rep X.K S μ H d v := by
  unfold L2.atI at e ⊢
  rw [← h.length]
  cases q : ixN ds.length i with
  | none => rw [q] at e; cases e
  | some j =>
    rw [q] at e
    exact h.get e
/-- x[i] -/
theorem ixD_run {value slice : Expr} {x i z : D} (e : ixD x i = some z) (I : Inv X pins σ H s) (g : Good X.K S μ H) (hx : Seen X.K S μ H x v) (hi : Rep X.K S μ H i w) (r1 : RelV v u1) (r2 : RelV w u2) (k : Cont X.K S μ H z Q)
    (hs : subscripted slice false u1 u2 = operate [u1, u2] (getItem u1 u2)) : wpAny (model X.prog X.w) X.A (subscriptTail value slice u1 u2) (EP X pins σ Q) X.xe s := by
  unfold ixD at e
  split at e
  · cases (show w = V.int _ from hi)
    obtain ⟨a, vs, rfl, qa, ra⟩ := hx
    obtain ⟨z', h1, h2⟩ := ra.atI e
    exact ix_list value slice pins s σ H _ _ u1 u2 Q I r1 r2 ⟨a, vs, _, z', rfl, rfl, qa.l, h1, cont_here g k h2⟩ hs
  · cases (show w = V.int _ from hi)
    obtain ⟨a, vs, rfl, qa, ra⟩ := hx
    obtain ⟨z', h1, h2⟩ := ra.atI e
    exact ix_tup value slice pins s σ H _ _ u1 u2 Q I r1 r2 ⟨a, vs, _, z', rfl, rfl, qa, h1, cont_here g k h2⟩ hs
  · cases (show w = V.int _ from hi)
    cases (show v = V.str _ from hx)
    split at e
    · rename_i h
      cases q : L2.atI _ _ with
      | none => rw [q] at e; cases e
      | some c =>
        rw [q] at e
        cases e
        exact ix_str value slice pins s σ H _ _ u1 u2 Q I r1 r2 ⟨_, _, c, rfl, rfl, small_line h, q, cont_here g k rfl⟩ hs
    · cases e
  · cases e
end
end Iv

set_option Elab.async false
set_option linter.all false
set_option maxRecDepth 100000
set_option maxHeartbeats 1000000
namespace Iv
open PySem PySem.Spec PyProof.Rows L2

section
variable {X : Cx} {pins : List (Addr × Obj)} {s : Shared} {σ : L2.St} {H : Hp} {S : Sto} {μ : Mu} {Q : VK}
/-- an item's value -/
def ItemR (K : PySem.W.Frag) (S : Sto) (μ : Mu) (H : Hp) (u : Value) (d : D) : Prop := ∃ v, RelV v u ∧ Rep K S μ H d v
theorem each_reps {K : PySem.W.Frag} : ∀ {us : List Value} {vs : List V} {ds : List D}, Vals vs us → Reps K S μ H ds vs → PySem.W.EachIs (ItemR K S μ H) us ds
  | us, vs, [], r, h => by
    cases (show vs = [] from h)
    cases r
    exact .nil
  | us, vs, d :: ds, r, ⟨v, vs', e, h1, h2⟩ => by
    subst e
    cases r with
    | cons r1 r2 => exact .cons ⟨v, r1, h1⟩ (each_reps r2 h2)
theorem reps_each {K : PySem.W.Frag} : ∀ {us : List Value} {ds : List D}, PySem.W.EachIs (ItemR K S μ H) us ds → ∃ vs, Vals vs us ∧ Reps K S μ H ds vs
  | _, _, .nil => ⟨[], .nil, rfl⟩
  | _, _, .cons ⟨v, r1, h1⟩ t => by
    obtain ⟨vs, r2, h2⟩ := reps_each t
    exact ⟨v :: vs, .cons r1 r2, v, vs, rfl, h1, h2⟩
theorem sortD_eq (xs : List D) : sortD xs = xs.mergeSort (PySem.W.dataLe false D.py) := by
  rw [PySem.W.dataLe_eq]
  rfl
theorem sortD_len (xs : List D) : (sortD xs).length = xs.length := (List.mergeSort_perm _ _).length_eq
/-- sorted of a list -/
theorem sort_run {a : Addr} {xs : List D} {ws : List V} {us : List Value} (hu : X.A.units + 200 < cLine) (h : sortOk xs = true) (I : Inv X pins σ H s) (r : Vals [V.ref a] us) (qa : SqP X.K H a ws) (ra : Reps X.K S μ H xs ws)
    (k : ∀ ws', Reps X.K S μ H (sortD xs) ws' → ∀ p, H p = none → Q (.ref p) (upd H p (.lst ws'))) : wpAny (model X.prog X.w) X.A (call (.builtin "sorted") us) (EP X pins σ Q) X.xe s := by
  unfold sortOk at h
  rw [Bool.and_eq_true, Bool.and_eq_true, Bool.and_eq_true, Bool.and_eq_true] at h
  obtain ⟨⟨⟨⟨h1, h2⟩, h3⟩, h4⟩, h5⟩ := h
  rw [Vals.ref1 r]
  obtain ⟨z, its, n, rv, hl, e⟩ := qa.plain I
  have hL : s.heap.IsList a its.toArray := ⟨_, e, rfl, n, rfl⟩
  have E1 := each_reps (S := S) (μ := μ) rv ra
  have er : PySem.W.EachIs (fun v d => ∃ as, PySem.Reads s.heap v d.py as) its xs := by
    refine (PySem.W.each_mem E1).mono fun u d ⟨⟨v, r1, r2⟩, hd⟩ => ?_
    have hp : D.pure d = true := by
      have : ∀ {l : List D}, D.pures l = true → ∀ x ∈ l, D.pure x = true := by
        intro l
        induction l with
        | nil => intro _ x hx; cases hx
        | cons y l ih =>
          intro hl x hx
          have hl' : (D.pure y && D.pures l) = true := hl
          rw [Bool.and_eq_true] at hl'
          rcases List.mem_cons.mp hx with rfl | hx
          · exact hl'.1
          · exact ih hl'.2 x hx
      exact this h2 d hd
    exact Dp.reads I d.py v u (Rep.dp hp r2) r1
  have hal : PySem.W.AllAlike (xs.map D.py) := by
    intro d hd d' hd'
    obtain ⟨b, hb, rfl⟩ := List.mem_map.mp hd
    obtain ⟨b', hb', rfl⟩ := List.mem_map.mp hd'
    exact List.all_eq_true.mp (List.all_eq_true.mp h3 b hb) b' hb'
  have hd0 : ∀ b, b ∈ xs → b.py.depth ≤ 100 := fun b hb => of_decide_eq_true (List.all_eq_true.mp h4 b hb)
  have hz : xs.length ≤ sizeLine := small_line h1
  have fin : ∀ out : List Value, out.length = xs.length → PySem.W.EachIs (ItemR X.K S μ H) out (xs.mergeSort (PySem.W.dataLe false D.py)) → EP X pins σ Q (.ref (s.heap.objs.size + 1)) { s with heap := sortedAll s.heap its (List.toArray out) } := fun out ol eo => by
    rw [← sortD_eq] at eo
    obtain ⟨ws', rw', rp⟩ := reps_each eo
    obtain ⟨ep, he'⟩ := PyProof.Rows.sortedAll_at s.heap its out.toArray
    exact ⟨.ref _, upd H (s.heap.objs.size + 1) (.lst ws'), I.laid (t' := s.toks) (fun _ _ => PyProof.Rows.sortedAll_old) (Nat.le_succ _) ⟨by rw [rw'.length, ol]; exact hz, out, ep, rw', he'⟩, rfl, k ws' rp _ (I.hok.fresh (Nat.le_succ _))⟩
  rw [Bool.or_eq_true, Bool.or_eq_true, Bool.and_eq_true] at h5
  rcases h5 with ⟨h5, h6⟩ | h5 | h5
  · have er' : PySem.W.EachIs (fun v d => ∃ as, PySem.Reads (PySem.W.sortingHeap (PySem.W.copyHeap s.heap its) (s.heap.objs.size + 1) its) v d.py as) its xs := er.mono fun _ _ ⟨as, q⟩ => ⟨as, PyProof.Rows.Reads.keeps (fun _ _ => PySem.W.sorting_copy_old) q⟩
    refine PySem.W.sorted_vals hL (sorts_tups0 (s := { s with heap := PySem.W.sortingHeap (PySem.W.copyHeap s.heap its) (s.heap.objs.size + 1) its }) (PySem.W.each_map (R := fun v d => ∃ as, PySem.Reads (PySem.W.sortingHeap (PySem.W.copyHeap s.heap its) (s.heap.objs.size + 1) its) v d as) D.py er') hal (fun d hd => ?_) ?_ (fun d hd => ?_)) (by rw [E1.length]; exact hz)
      (fin _ (by rw [PySem.W.sortVals_length false rfl]; exact E1.length) (PySem.W.sortVals_data false E1 er' hal))
    · obtain ⟨b, hb, rfl⟩ := List.mem_map.mp hd
      have q := List.all_eq_true.mp h6 b hb
      cases b with
      | tup l => exact ⟨_, rfl⟩
      | _ => cases q
    · cases xs with
      | nil => cases h5
      | cons b xs =>
        cases b with
        | tup l =>
          cases l with
          | nil => exact ⟨_, rfl⟩
          | cons _ _ => cases h5
        | _ => cases h5
    · obtain ⟨b, hb, rfl⟩ := List.mem_map.mp hd
      have := hd0 b hb
      show X.A.units + 1 + 1 + _ < cLine
      omega
  · refine PySem.W.sorted_data hL E1 er hal (.inr fun d hd => ?_) hz (fun b hb => ?_) fin
    · obtain ⟨b, hb, rfl⟩ := List.mem_map.mp hd
      have q := List.all_eq_true.mp h5 b hb
      cases b with
      | int i => exact ⟨by simp [D.py], fun xs => by simp [D.py]⟩
      | str i => exact ⟨by simp [D.py], fun xs => by simp [D.py]⟩
      | _ => cases q
    · have := hd0 b hb
      omega
  · refine PySem.W.sorted_data hL E1 er hal (.inl fun d hd => ?_) hz (fun b hb => ?_) fin
    · obtain ⟨b, hb, rfl⟩ := List.mem_map.mp hd
      have q := List.all_eq_true.mp h5 b hb
      cases b with
      | tup l =>
        cases l with
        | nil => cases q
        | cons x r => exact ⟨x.py, D.pys r, by simp [D.py, D.pys]⟩
      | _ => cases q
    · have := hd0 b hb
      omega
end
end Iv

set_option Elab.async false
set_option linter.all false
set_option maxRecDepth 100000
set_option maxHeartbeats 1000000
namespace Iv
open PySem PySem.Spec PyProof.Rows L2

section
variable {X : Cx} {pins : List (Addr × Obj)} {s : Shared} {σ : L2.St} {H : Hp} {S : Sto} {μ : Mu} {v w : V} {u1 u2 : Value} {Q : VK}

/-- slices -/
def rSlI (K : PySem.W.Frag) : V → Option Int → Option Int → Hp → VK → Prop := fun v lo hi H Q => ∃ S μ x z, Good K S μ H ∧ Seen K S μ H x v ∧ slD x lo hi = some z ∧ Cont K S μ H z Q
theorem sl_I : SlR X (rSlI X.K) := by
  intro pins s σ H v u vl vu lo hi sl Q I rx hs pl pu h
  obtain ⟨S, μ, x, z, g, hx, e, k⟩ := h
  unfold slD at e
  split at e
  · cases e
    obtain ⟨a, vs, rfl, qa, ra⟩ := hx
    exact sl_list pins s σ H _ u vl vu lo hi sl Q I rx hs pl pu ⟨a, vs, rfl, qa.l, cont_lst g k (ra.cut lo hi)⟩
  · rename_i xs
    cases e
    obtain ⟨a, vs, rfl, qa, ra⟩ := hx
    refine sl_tupA pins s σ H _ u vl vu lo hi sl Q I rx hs pl pu ⟨a, vs, rfl, qa, fun hw => ?_, fun _ => cont_tup g k (ra.cut lo hi)⟩
    have ew : cutV vs lo hi = vs := by
      unfold cutV
      rw [hw.1, hw.2, List.drop_zero, Nat.sub_zero, List.take_length]
    have rc := ra.cut lo hi
    rw [ew] at rc
    exact cont_here g k ⟨a, vs, rfl, qa, rc⟩
  · split at e
    · rename_i h
      cases e
      cases (show v = V.str _ from hx)
      exact sl_str pins s σ H _ u vl vu lo hi sl Q I rx hs pl pu ⟨_, rfl, small_line h, cont_here g k rfl⟩
    · cases e
  · cases e

def Seens (K : PySem.W.Frag) (S : Sto) (μ : Mu) (H : Hp) : List D → List V → Prop
  | [], vs => vs = []
  | d :: ds, vs => ∃ v r, vs = v :: r ∧ Seen K S μ H d v ∧ Seens K S μ H ds r
theorem seeAll_ok {K : PySem.W.Frag} (g : Good K S μ H) : ∀ {ds es : List D} {vs : List V}, Reps K S μ H ds vs → seeAll S ds = some es → Seens K S μ H es vs
  | [], _, _, h, e => by cases e; exact h
  | d :: ds, es, _, ⟨v, r, e1, h1, h2⟩, e => by
    unfold seeAll at e
    split at e
    · rename_i y ys e2 e3
      cases e
      exact ⟨v, r, e1, see_ok g h1 e2, seeAll_ok g h2 e3⟩
    · cases e
theorem reps_bls {K : PySem.W.Frag} : ∀ {ds : List D} {bs : List Bool} {vs : List V}, Reps K S μ H ds vs → bls? ds = some bs → vs = bs.map V.bl
  | [], _, _, h, e => by cases e; exact h
  | .bl b :: ds, bs, _, ⟨v, r, e1, h1, h2⟩, e => by
    simp only [bls?] at e
    cases q : bls? ds with
    | none => rw [q] at e; cases e
    | some cs =>
      rw [q] at e
      cases e
      subst e1
      rw [reps_bls h2 q]
      cases (show v = V.bl b from h1)
      rfl
  | .non :: ds, _, _, _, e => by cases e
  | .int _ :: ds, _, _, _, e => by cases e
  | .str _ :: ds, _, _, _, e => by cases e
  | .tup _ :: ds, _, _, _, e => by cases e
  | .lst _ :: ds, _, _, _, e => by cases e
  | .ref _ :: ds, _, _, _, e => by cases e
theorem reps_ints {K : PySem.W.Frag} : ∀ {ds : List D} {bs : List Int} {vs : List V}, Reps K S μ H ds vs → ints? ds = some bs → vs = bs.map V.int
  | [], _, _, h, e => by cases e; exact h
  | .int b :: ds, bs, _, ⟨v, r, e1, h1, h2⟩, e => by
    simp only [ints?] at e
    cases q : ints? ds with
    | none => rw [q] at e; cases e
    | some cs =>
      rw [q] at e
      cases e
      subst e1
      rw [reps_ints h2 q]
      cases (show v = V.int b from h1)
      rfl
  | .non :: ds, _, _, _, e => by cases e
  | .bl _ :: ds, _, _, _, e => by cases e
  | .str _ :: ds, _, _, _, e => by cases e
  | .tup _ :: ds, _, _, _, e => by cases e
  | .lst _ :: ds, _, _, _, e => by cases e
  | .ref _ :: ds, _, _, _, e => by cases e
theorem reps_strs {K : PySem.W.Frag} : ∀ {ds : List D} {bs : List Str} {vs : List V}, Reps K S μ H ds vs → strs? ds = some bs → vs = bs.map V.str
  | [], _, _, h, e => by cases e; exact h
  | .str b :: ds, bs, _, ⟨v, r, e1, h1, h2⟩, e => by
    simp only [strs?] at e
    cases q : strs? ds with
    | none => rw [q] at e; cases e
    | some cs =>
      rw [q] at e
      cases e
      subst e1
      rw [reps_strs h2 q]
      cases (show v = V.str b from h1)
      rfl
  | .non :: ds, _, _, _, e => by cases e
  | .bl _ :: ds, _, _, _, e => by cases e
  | .int _ :: ds, _, _, _, e => by cases e
  | .tup _ :: ds, _, _, _, e => by cases e
  | .lst _ :: ds, _, _, _, e => by cases e
  | .ref _ :: ds, _, _, _, e => by cases e

theorem max_fold : ∀ (ns : List Int) (n : Int), (ns.foldl (fun a b => if b > a then b else a) n ∈ n :: ns) ∧ ∀ y ∈ n :: ns, y ≤ ns.foldl (fun a b => if b > a then b else a) n
  | [], n => ⟨List.mem_cons_self .., fun y hy => by
    rcases List.mem_cons.mp hy with e | hy
    · exact Int.le_of_eq e
    · cases hy⟩
  | m :: ns, n => by
    obtain ⟨h1, h2⟩ := max_fold ns (if m > n then m else n)
    have k0 := h2 _ (List.mem_cons_self ..)
    rw [List.foldl_cons]
    refine ⟨?_, fun y hy => ?_⟩
    · rcases List.mem_cons.mp h1 with e | h
      · rw [e]
        by_cases hm : m > n
        · rw [if_pos hm]; exact List.mem_cons_of_mem _ (List.mem_cons_self ..)
        · rw [if_neg hm]; exact List.mem_cons_self ..
      · exact List.mem_cons_of_mem _ (List.mem_cons_of_mem _ h)
    · rcases List.mem_cons.mp hy with e | hy
      · subst e
        by_cases hm : m > y
        · rw [if_pos hm] at k0 ⊢; omega
        · rw [if_neg hm] at k0 ⊢; exact k0
      · rcases List.mem_cons.mp hy with e | hy
        · subst e
          by_cases hm : y > n
          · rw [if_pos hm] at k0 ⊢; exact k0
          · rw [if_neg hm] at k0 ⊢; omega
        · exact h2 y (List.mem_cons_of_mem _ hy)
def biV : BI → Value
  | .len => .builtin "len"
  | .int => .type "int"
  | .abs => .builtin "abs"
  | .tuple => .type "tuple"
  | .list => .type "list"
  | .all => .builtin "all"
  | .any => .builtin "any"
  | .sum => .builtin "sum"
  | .max2 => .builtin "max"
  | .str => .type "str"
  | .repr => .builtin "repr"
  | .sorted => .builtin "sorted"
  | .maxl => .builtin "max"
def rBi (K : PySem.W.Frag) (b : BI) : List V → Hp → VK → Prop := fun vs H Q => ∃ S μ ys z, Good K S μ H ∧ Seens K S μ H ys vs ∧ biD b ys = some z ∧ Cont K S μ H z Q
theorem seens1 {K : PySem.W.Frag} {d : D} {vs : List V} (h : Seens K S μ H [d] vs) : ∃ v, vs = [v] ∧ Seen K S μ H d v := by
  obtain ⟨v, r, e, h1, h2⟩ := h
  cases (show r = [] from h2)
  exact ⟨v, e, h1⟩
theorem seens2 {K : PySem.W.Frag} {d d' : D} {vs : List V} (h : Seens K S μ H [d, d'] vs) : ∃ v w, vs = [v, w] ∧ Seen K S μ H d v ∧ Seen K S μ H d' w := by
  obtain ⟨v, r, e, h1, h2⟩ := h
  obtain ⟨w, e2, h3⟩ := seens1 h2
  exact ⟨v, w, by rw [e, e2], h1, h3⟩
mutual
theorem noDict : ∀ {d : D}, d.py.hasDict = false
  | .non => by simp [D.py, PyData.hasDict]
  | .bl _ => by simp [D.py, PyData.hasDict]
  | .int _ => by simp [D.py, PyData.hasDict]
  | .str _ => by simp [D.py, PyData.hasDict]
  | .ref _ => by simp [D.py, PyData.hasDict]
  | .cl _ _ => by simp [D.py, PyData.hasDict]
  | .dct => by simp [D.py, PyData.hasDict]
  | .tup ds => by rw [D.py, PyData.hasDict]; exact noDicts
  | .lst ds => by rw [D.py, PyData.hasDict]; exact noDicts
theorem noDicts : ∀ {ds : List D}, PyData.hasDictAll (D.pys ds) = false
  | [] => by simp [D.pys, PyData.hasDictAll]
  | d :: ds => by rw [D.pys, PyData.hasDictAll, noDict, noDicts]; rfl
end
theorem repr_run {d : D} {us : List Value} (hg : X.A.guards = some []) (hu : X.A.units + 200 < cLine) (h : D.shows d = true) (I : Inv X pins σ H s) (r : Vals [v] us) (hv : Seen X.K S μ H d v) (k : Cont X.K S μ H (.str d.py.shown) Q) (g : Good X.K S μ H)
    (hd : ∃ a, v = .ref a := by first | exact ⟨_, hv.choose_spec.choose_spec.1⟩ | exact ⟨_, hv.choose_spec.choose_spec.1⟩) : wpAny (model X.prog X.w) X.A (call (.builtin "repr") us) (EP X pins σ Q) X.xe s := by
  obtain ⟨a, rfl⟩ := hd
  unfold D.shows at h
  rw [Bool.and_eq_true, Bool.and_eq_true, Bool.and_eq_true, Bool.and_eq_true, decide_eq_true_eq, decide_eq_true_eq] at h
  obtain ⟨⟨⟨⟨h1, h2⟩, h3⟩, h4⟩, h5⟩ := h
  obtain ⟨u, rfl, ru⟩ := r.one
  cases (show u = Value.ref a from ru)
  obtain ⟨as, d1⟩ := Dp.reads I d.py (.ref a) (.ref a) (hv.dp h1) rfl
  refine PySem.repr_of_reads' d1 h2 (fun z => by rw [noDict] at z; cases z) hg (by omega) (fun _ _ q => q) (fun h' u tk hk => ⟨.str _, H, I.kept (t' := tk) hk, ⟨_, rfl⟩, cont_here g k rfl⟩) ?_
  rw [sizeLine_eq]; omega
/-- list(text): its signs -/
theorem signs_reps {K : PySem.W.Frag} : ∀ cs : List Nat, Reps K S μ H (cs.map fun c => D.str ⟨#[c]⟩) (cs.map fun c => V.str ⟨#[c]⟩)
  | [] => rfl
  | _ :: cs => ⟨_, _, rfl, rfl, signs_reps cs⟩
theorem paired_ix {α β : Type} {F : α → β → Prop} : ∀ {xs : List α} {ys : List β}, xs.length = ys.length → (∀ (i : Nat) (x : α) (y : β), xs[i]? = some x → ys[i]? = some y → F x y) → Paired F xs ys
  | [], [], _, _ => .nil
  | [], _ :: _, h, _ => by cases h
  | _ :: _, [], h, _ => by cases h
  | x :: xs, y :: ys, h, k => .cons (k 0 x y rfl rfl) (paired_ix (by simpa using h) fun i a b h1 h2 => k (i + 1) a b (by simpa using h1) (by simpa using h2))
theorem signs_raw {z : Str} {t : Tok} (hc : X.calm = true) (h : small z.length = true) (I : Inv X pins σ H s) (q : ∀ p, H p = none → Q (.ref p) (upd H p (.lst (z.cps.toList.map fun c => V.str ⟨#[c]⟩)))) :
    wpAny (model X.prog X.w) X.A (call (.type "list") [.str z t]) (EP X pins σ Q) X.xe s := by
  have hz := small_line h
  refine PySem.call_list_str (I.ok.hd hc) z t (fun h' tk acc c hk ho hit => ?_) hz
  have rv : Vals (z.cps.toList.map fun c => V.str ⟨#[c]⟩) acc.toList := by
    refine paired_ix (by rw [List.length_map, Array.length_toList, Array.length_toList, hit.1]) fun i x y hx hy => ?_
    rw [Array.getElem?_toList] at hy
    obtain ⟨cc, u, h1, h2⟩ := hit.2 i y hy
    rw [List.getElem?_map, Array.getElem?_toList, h1] at hx
    cases hx
    exact ⟨u, h2⟩
  refine ⟨.ref s.heap.objs.size, _, I.laid (t' := tk) (o := .lst (z.cps.toList.map fun c => V.str ⟨#[c]⟩)) hk (Nat.le_refl _) ⟨by rw [List.length_map]; simpa [Str.length] using hz, acc.toList, c, rv, by simpa using ho⟩, rfl, q _ I.fresh⟩
theorem signs_run {z : Str} {t : Tok} (hc : X.calm = true) (h : small z.length = true) (I : Inv X pins σ H s) (g : Good X.K S μ H) (k : Cont X.K S μ H (.lst (z.cps.toList.map fun c => .str ⟨#[c]⟩)) Q) :
    wpAny (model X.prog X.w) X.A (call (.type "list") [.str z t]) (EP X pins σ Q) X.xe s := signs_raw hc h I (cont_lst g k (signs_reps _))
theorem strs_reps {K : PySem.W.Frag} : ∀ ss : List Str, Reps K S μ H (ss.map D.str) (ss.map V.str)
  | [] => rfl
  | x :: ss => ⟨.str x, ss.map V.str, rfl, rfl, strs_reps ss⟩
theorem sort_tup_run {a : Addr} {ss : List Str} {us : List Value} (hu : X.A.units + 200 < cLine) (h : ss.length ≤ 1000) (I : Inv X pins σ H s) (r : Vals [V.ref a] us) (qa : SqT X.K H a (ss.map V.str))
    (k : ∀ p, H p = none → Q (.ref p) (upd H p (.lst ((sortS ss).map V.str)))) : wpAny (model X.prog X.w) X.A (call (.builtin "sorted") us) (EP X pins σ Q) X.xe s := by
  obtain ⟨its, rv, ⟨o, ho, hc, n, hd⟩, _⟩ := I.tuple qa
  rw [Vals.ref1 r]
  refine sorted_tup (vs := its) (ys := ss) ⟨o, ho, hc, n, hd⟩ rv.strs h (by omega) fun out ho => ?_
  obtain ⟨ep, he'⟩ := PyProof.Rows.sortedAll_at s.heap its out.toArray
  have hlen : ((sortS ss).map V.str).length ≤ sizeLine := by rw [List.length_map, (sortS_is ss).length_eq, sizeLine_eq]; omega
  exact ⟨.ref _, upd H (s.heap.objs.size + 1) (.lst ((sortS ss).map V.str)), I.laid (t' := s.toks) (fun _ _ => PyProof.Rows.sortedAll_old) (Nat.le_succ _) ⟨hlen, out, ep, vals_of_strs ho, he'⟩, rfl, k _ (I.hok.fresh (Nat.le_succ _))⟩
theorem call_bi (hc : X.calm = true) (hg : X.A.guards = some []) (hu : X.A.units + 200 < cLine) (b : BI) : CallR X (biV b) (rBi X.K b) := by
  intro pins s σ H vs us Q I r h
  obtain ⟨S, μ, ys, z, g, hs, e, k⟩ := h
  unfold biD at e
  split at e
  · cases e
    obtain ⟨v, rfl, a, ws, rfl, qa, ra⟩ := seens1 hs
    exact call_len_seq pins s σ H _ us Q I r ⟨a, ws, rfl, .inl qa.l, cont_here g k (by rw [ra.length]; rfl)⟩
  · cases e
    obtain ⟨v, rfl, a, ws, rfl, qa, ra⟩ := seens1 hs
    exact call_len_seq pins s σ H _ us Q I r ⟨a, ws, rfl, .inr qa, cont_here g k (by rw [ra.length]; rfl)⟩
  · split at e
    · rename_i h
      cases e
      obtain ⟨v, rfl, hv⟩ := seens1 hs
      cases (show v = V.str _ from hv)
      exact call_len_str pins s σ H _ us Q I r ⟨_, rfl, small_line h, cont_here g k rfl⟩
    · cases e
  · cases e
    obtain ⟨v, rfl, hv⟩ := seens1 hs
    cases (show v = V.int _ from hv)
    exact call_int1 pins s σ H _ us Q I r (.inl ⟨_, rfl, cont_here g k rfl⟩)
  · cases e
    obtain ⟨v, rfl, hv⟩ := seens1 hs
    cases (show v = V.bl _ from hv)
    exact call_int1 pins s σ H _ us Q I r (.inr ⟨_, rfl, cont_here g k rfl⟩)
  · cases e
    obtain ⟨v, rfl, hv⟩ := seens1 hs
    cases (show v = V.int _ from hv)
    exact call_abs pins s σ H _ us Q I r ⟨_, rfl, cont_here g k rfl⟩
  · cases e
    obtain ⟨v, rfl, a, ws, rfl, qa, ra⟩ := seens1 hs
    exact call_tuple_of pins s σ H _ us Q I r ⟨a, ws, rfl, .inl ⟨qa.l, cont_tup g k ra⟩⟩
  · cases e
    obtain ⟨v, rfl, a, ws, rfl, qa, ra⟩ := seens1 hs
    exact call_tuple_of pins s σ H _ us Q I r ⟨a, ws, rfl, .inr ⟨qa, cont_here g k ⟨a, ws, rfl, qa, ra⟩⟩⟩
  · cases e
    obtain ⟨v, rfl, a, ws, rfl, qa, ra⟩ := seens1 hs
    exact call_list_of pins s σ H _ us Q I r ⟨a, ws, rfl, .inl qa.l, cont_lst g k ra⟩
  · cases e
    obtain ⟨v, rfl, a, ws, rfl, qa, ra⟩ := seens1 hs
    exact call_list_of pins s σ H _ us Q I r ⟨a, ws, rfl, .inr qa, cont_lst g k ra⟩
  · split at e
    · rename_i h
      cases e
      obtain ⟨v, rfl, hv⟩ := seens1 hs
      cases (show v = V.str _ from hv)
      obtain ⟨u, rfl, t, rfl⟩ := vals1 r
      exact signs_run hc h I g k
    · cases e
  · obtain ⟨bs, e1, rfl⟩ := Option.map_eq_some_iff.mp e
    obtain ⟨v, rfl, a, ws, rfl, qa, ra⟩ := seens1 hs
    have ew := reps_bls ra e1
    subst ew
    exact cr_all hc pins s σ H _ us Q I r ⟨a, bs, rfl, qa.l, cont_here g k rfl⟩
  · obtain ⟨bs, e1, rfl⟩ := Option.map_eq_some_iff.mp e
    obtain ⟨v, rfl, a, ws, rfl, qa, ra⟩ := seens1 hs
    have ew := reps_bls ra e1
    subst ew
    exact cr_any hc pins s σ H _ us Q I r ⟨a, bs, rfl, qa.l, cont_here g k rfl⟩
  · obtain ⟨bs, e1, rfl⟩ := Option.map_eq_some_iff.mp e
    obtain ⟨v, rfl, a, ws, rfl, qa, ra⟩ := seens1 hs
    have ew := reps_ints ra e1
    subst ew
    exact cr_sum hc pins s σ H _ us Q I r ⟨a, bs, rfl, qa.l, cont_here g k rfl⟩
  · obtain ⟨bs, e1, rfl⟩ := Option.map_eq_some_iff.mp e
    obtain ⟨v, rfl, a, ws, rfl, qa, ra⟩ := seens1 hs
    have ew := reps_ints ra e1
    subst ew
    obtain ⟨its, rv, ht, _⟩ := I.tuple qa
    rw [Vals.ref1 r]
    obtain ⟨xs, e⟩ := rv.ints.allInts.items
    have hn : numsOf (PySem.intItems xs).toList = bs := by rw [← e]; exact rv.ints.numsOf
    rw [PySem.nums_intItems] at hn
    have ht2 : s.heap.IsTuple a (PySem.intItems xs) := by rw [← e]; exact ht
    refine PySem.W.ktm_sumG (I.ok.hd hc) ht2 fun h' tk t' hk => ?_
    rw [preSum_eq, List.take_of_length_le (by simp), hn]
    exact ⟨.int _, H, I.kept hk, ⟨_, rfl⟩, k _ _ g (Evo.refl _ _ _) rfl⟩
  · cases e
    obtain ⟨v, w, rfl, hv, hw⟩ := seens2 hs
    cases (show v = V.int _ from hv)
    cases (show w = V.int _ from hw)
    exact call_max2 hc pins s σ H _ us Q I r ⟨_, _, rfl, cont_here g k rfl⟩
  · split at e
    · rename_i h
      cases e
      rw [decide_eq_true_eq] at h
      obtain ⟨v, rfl, hv⟩ := seens1 hs
      cases (show v = V.int _ from hv)
      exact call_str_int pins s σ H _ us Q I r ⟨_, rfl, by have := natAbs_log h (by decide); omega, cont_here g k rfl⟩
    · cases e
  · split at e
    · rename_i h
      cases e
      obtain ⟨v, rfl, hv⟩ := seens1 hs
      exact repr_run hg hu h I r hv k g
    · cases e
  · split at e
    · rename_i h
      cases e
      obtain ⟨v, rfl, hv⟩ := seens1 hs
      exact repr_run hg hu h I r hv k g
    · cases e
  · split at e
    · rename_i i0 h
      cases e
      obtain ⟨v, rfl, hv⟩ := seens1 hs
      cases (show v = V.int _ from hv)
      obtain ⟨u, rfl, t, rfl⟩ := vals1 r
      have k2 : Q (.str (D.int i0).py.shown) H := cont_here g k rfl
      rw [decide_eq_true_eq] at h
      have k3 : (D.int i0).py.shown = (toString i0 : Str) := by simp [D.py, PyData.shown]
      rw [k3] at k2
      exact PySem.P.repr_of_int (by have := natAbs_log h (by decide); omega) ⟨.str _, H, I.tok _, ⟨_, rfl⟩, k2⟩
    · cases e
  · split at e
    · rename_i n ns hn
      cases e
      obtain ⟨v, rfl, hv⟩ := seens1 hs
      obtain ⟨a, ws, rfl, qa, ra⟩ := hv
      have ew := reps_ints ra hn
      subst ew
      obtain ⟨m1, m2⟩ := max_fold ns n
      refine cr_max hc pins s σ H _ us Q I r ⟨a, n :: ns, rfl, qa.l, Nat.succ_pos _, fun m h1 h2 => ?_⟩
      have e2 : m = ns.foldl (fun a b => if b > a then b else a) n := Int.le_antisymm (m2 m h1) (h2 _ m1)
      rw [e2]
      exact cont_here g k rfl
    · cases e
  · rename_i b0
    cases e
    obtain ⟨v, rfl, hv⟩ := seens1 hs
    cases (show v = V.bl _ from hv)
    obtain ⟨u, rfl, ru⟩ := r.one
    cases (show u = Value.bool _ from ru)
    have k2 : Q (.str (D.bl b0).py.shown) H := cont_here g k rfl
    exact PySem.P.repr_of_bool ⟨.str _, H, I.tok _, ⟨_, rfl⟩, k2⟩
  · split at e
    · rename_i h
      cases e
      obtain ⟨v, rfl, hv⟩ := seens1 hs
      cases (show v = V.str _ from hv)
      obtain ⟨u, rfl, t, rfl⟩ := vals1 r
      have k2 := cont_here g k rfl
      exact PySem.P.repr_of_str ⟨.str _, H, I.tok _, ⟨_, rfl⟩, k2⟩ (small_line h)
    · cases e
  · split at e
    · rename_i h
      cases e
      obtain ⟨v, rfl, hv⟩ := seens1 hs
      obtain ⟨a, ws, rfl, qa, ra⟩ := hv
      exact sort_run hu h I r qa ra (fun ws' r' => cont_lst g k r')
    · cases e
  · split at e
    · rename_i ss hss
      split at e
      · rename_i h
        rw [decide_eq_true_eq] at h
        cases e
        obtain ⟨v, rfl, hv⟩ := seens1 hs
        obtain ⟨a, ws, rfl, qa, ra⟩ := hv
        have ew := reps_strs ra hss
        subst ew
        exact sort_tup_run hu h I r qa (fun p hp => cont_lst g k (strs_reps _) p hp)
      · cases e
    · cases e
  · cases e

def meId : ME → String
  | .append => "list.append"
  | .pop => "list.pop"
  | .popAt => "list.pop"
  | .extend => "list.extend"
  | .index => "list.index"
  | .join => "str.join"
  | .lower => "str.lower"
  | .isalpha => "str.isalpha"
  | .isalnum => "str.isalnum"
  | .split => "str.split"
/-- behind an operation that may change the store -/
abbrev ContS (K : PySem.W.Frag) (S : Sto) (μ : Mu) (H : Hp) (S' : Sto) (z : D) (Q : VK) : Prop := ∀ v' μ' H', Good K S' μ' H' → Evo S μ H S' μ' H' → Rep K S' μ' H' z v' → Q v' H'
def rMk (K : PySem.W.Frag) : List V → Hp → VK → Prop := fun vs H Q => ∃ S μ ys zs S' d, Good K S μ H ∧ Seens K S μ H ys vs ∧ biD .list ys = some (.lst zs) ∧ mkList true zs S = some (d, S') ∧ ContS K S μ H S' d Q
/-- list(x) that will change -/
theorem call_mk (hc : X.calm = true) : CallR X (.type "list") (rMk X.K) := by
  intro pins s σ H vs us Q I r h
  obtain ⟨S, μ, ys, zs, S', d, g, hs, e, em, k⟩ := h
  unfold mkList at em
  rw [if_pos rfl] at em
  cases em
  have key : ∀ vs', Reps X.K S μ H zs vs' → ∀ p, H p = none → Q (.ref p) (upd H p (.lst vs')) := fun vs' rz p hn => k _ _ _ (good_mk g hn rz) (evo_mk g hn) ⟨p, rfl, get_last g.len⟩
  match ys, hs, e with
  | [.lst xs], hs, e =>
    cases e
    obtain ⟨v, rfl, a, ws, rfl, qa, ra⟩ := seens1 hs
    exact call_list_of pins s σ H _ us Q I r ⟨a, ws, rfl, .inl qa.l, key _ ra⟩
  | [.tup xs], hs, e =>
    cases e
    obtain ⟨v, rfl, a, ws, rfl, qa, ra⟩ := seens1 hs
    exact call_list_of pins s σ H _ us Q I r ⟨a, ws, rfl, .inr qa, key _ ra⟩
  | [.str z], hs, e =>
    have e2 : (if small z.length = true then some (D.lst (z.cps.toList.map fun c => .str ⟨#[c]⟩)) else none) = some (D.lst zs) := e
    split at e2
    · rename_i h
      cases e2
      obtain ⟨v, rfl, hv⟩ := seens1 hs
      cases (show v = V.str _ from hv)
      obtain ⟨u, rfl, t, rfl⟩ := vals1 r
      exact signs_raw hc h I (key _ (signs_reps _))
    · cases e2
  | [.int _], hs, e => cases e
  | [.bl _], hs, e => cases e
  | [.non], hs, e => cases e
  | [.ref _], hs, e => cases e
  | [], hs, e => cases e
  | _ :: _ :: _, hs, e => simp [biD] at e
theorem pures_append : ∀ {xs ys : List D}, D.pures xs = true → D.pures ys = true → D.pures (xs ++ ys) = true
  | [], _, _, h => h
  | x :: xs, ys, h, h' => by
    have p : (D.pure x && D.pures xs) = true := h
    rw [Bool.and_eq_true] at p
    show (D.pure x && D.pures (xs ++ ys)) = true
    rw [Bool.and_eq_true]
    exact ⟨p.1, pures_append p.2 h'⟩
theorem pures_mem : ∀ {xs : List D}, D.pures xs = true ↔ ∀ x ∈ xs, D.pure x = true
  | [] => by simp [D.pures]
  | x :: xs => by
    have ih := pures_mem (xs := xs)
    show (D.pure x && D.pures xs) = true ↔ _
    rw [Bool.and_eq_true, ih]
    simp
theorem pures_sub {xs ys : List D} (h : D.pures xs = true) (k : ∀ y ∈ ys, y ∈ xs) : D.pures ys = true := pures_mem.mpr fun y hy => pures_mem.mp h y (k y hy)
theorem pures_set {xs : List D} {j : Nat} {x : D} (h : D.pures xs = true) (hx : D.pure x = true) : D.pures (xs.set j x) = true :=
  pures_mem.mpr fun y hy => by
    rcases List.mem_or_eq_of_mem_set hy with z | z
    · exact pures_mem.mp h y z
    · rw [z]; exact hx
def rMe (K : PySem.W.Frag) (m : ME) : V → List V → Hp → VK → Prop := fun v vs H Q => ∃ S μ o ys S' z, Good K S μ H ∧ Rep K S μ H o v ∧ Reps K S μ H ys vs ∧ meD m o ys S = some (z, S') ∧ ContS K S μ H S' z Q
theorem reps1 {K : PySem.W.Frag} {d : D} {vs : List V} (h : Reps K S μ H [d] vs) : ∃ v, vs = [v] ∧ Rep K S μ H d v := by
  obtain ⟨v, r, e, h1, h2⟩ := h
  cases (show r = [] from h2)
  exact ⟨v, e, h1⟩
theorem extend_run {l b : Addr} {xs zs : List V} (I : Inv X pins σ H s) (hH : H l = some (.lst xs)) (hB : SqP X.K H b zs) (hz : xs.length + zs.length ≤ sizeLine) (q : Q .non (upd H l (.lst (xs ++ zs)))) :
    wpAny (model X.prog X.w) X.A (call (.builtin "list.extend") [.ref l, .ref b]) (EP X pins σ Q) X.xe s := by
  obtain ⟨z, its, n, r, hl, e⟩ := I.lstM hH
  obtain ⟨z2, its2, n2, r2, hl2, e2⟩ := hB.plain I
  have hsz : its.toArray.size + its2.toArray.size ≤ sizeLine := by rw [List.size_toArray, List.size_toArray]; omega
  have hlong : ¬ (!its.toArray.isEmpty && Builtin.List.listTooLong (its.toArray.size + its2.toArray.size)) = true := by
    rw [notLongL hsz, Bool.and_false]
    exact Bool.false_ne_true
  refine call_meets F.slot_list_extend ⟨_, e, rfl⟩ F.entry_list_extend (F.args_list_extend_2 _ _)
    (AutoSeq1.list_extend_list_list_0 l its.toArray n b its2.toArray n2 hlong (by rw [List.size_toArray]; omega) (by omega)) ⟨e, e2, ?_⟩
  refine ⟨.non, _, I.lset (its' := its ++ its2) hH e (by simp) (r.append r2) ?_, rfl, q⟩
  rw [List.length_append]
  omega
theorem ixN_bounds {n : Nat} {i : Int} {j : Nat} (h : ixN n i = some j) (hn : n ≤ 100000) : -(2 ^ 63) ≤ i ∧ i < 2 ^ 63 ∧ seqIndex? i n = some j := by
  obtain ⟨h1, h2, h3, h4⟩ := ixN_seq h
  exact ⟨by omega, by omega, h1⟩
theorem me_run (m : ME) : MtR X (meId m) (rMe X.K m) := by
  intro pins s σ H v vs u us Q I rv r h
  obtain ⟨S, μ, o, ys, S', z, g, ho, hs, e, k⟩ := h
  unfold meD at e
  split at e
  · -- append
    split at e
    · rename_i x _ ys hS
      split at e
      · rename_i hc
        cases e
        rw [Bool.and_eq_true, Bool.not_eq_true'] at hc
        obtain ⟨a, rfl, ma⟩ := ho
        obtain ⟨b, oo, mb, hb, r0⟩ := g.at_ _ _ hS
        rw [ma] at mb; cases mb
        obtain ⟨ws, rfl, rr⟩ := Obs.ls hc.1 r0
        obtain ⟨w, rfl, hw⟩ := reps1 hs
        have hl := small_lt hc.2
        rw [rr.length] at hl
        have r2 : Reps X.K S μ H (ys ++ [x]) (ws ++ [w]) := rr.append ⟨w, [], rfl, hw, rfl⟩
        exact mt_append pins s σ H _ _ u us Q I rv r ⟨a, ws, w, rfl, rfl, hb, hl, k _ _ _ (good_put g hS ma r2) (evo_put g hS ma) rfl⟩
      · cases e
    · cases e
  · -- extend
    split at e
    · rename_i x _ ys hS
      split at e
      · rename_i hc
        cases e
        rw [Bool.and_eq_true, Bool.not_eq_true'] at hc
        obtain ⟨a, rfl, ma⟩ := ho
        obtain ⟨b, oo, mb, hb, r0⟩ := g.at_ _ _ hS
        rw [ma] at mb; cases mb
        obtain ⟨ws, rfl, rr⟩ := Obs.ls hc.1 r0
        obtain ⟨w, rfl, hw⟩ := reps1 hs
        obtain ⟨c, zs, rfl, qc, rc⟩ := hw.lsR
        have hl := small_line hc.2
        rw [rr.length, rc.length] at hl
        obtain ⟨u2, rfl, ru⟩ := r.one
        cases (show u2 = Value.ref c from ru)
        cases (show u = Value.ref a from rv)
        exact extend_run I hb qc hl (k _ _ _ (good_put g hS ma (rr.append rc)) (evo_put g hS ma) rfl)
      · cases e
    · cases e
  · -- pop
    split at e
    · rename_i ys hS
      split at e
      · cases e
      rename_i no
      split at e
      · rename_i y hy
        cases e
        obtain ⟨a, rfl, ma⟩ := ho
        obtain ⟨b, oo, mb, hb, r0⟩ := g.at_ _ _ hS
        rw [ma] at mb; cases mb
        obtain ⟨ws, rfl, rr⟩ := Obs.ls (by simpa using no) r0
        obtain ⟨w, hw, rw'⟩ := rr.get hy
        rw [rr.length] at hw
        cases (show vs = [] from hs)
        have ev := evo_put (o := .lst ws.dropLast) (ys := ys.dropLast) g hS ma
        exact mt_pop pins s σ H _ _ u us Q I rv r ⟨a, ws, w, rfl, rfl, hb, hw, k _ _ _ (good_put g hS ma rr.dropLast) ev (rw'.mono g ev.w)⟩
      · cases e
    · cases e
  · -- pop(i)
    split at e
    · rename_i ys hS
      split at e
      · rename_i j hj
        split at e
        · rename_i hc
          split at e
          · rename_i y hy
            cases e
            rw [Bool.and_eq_true, Bool.not_eq_true'] at hc
            obtain ⟨a, rfl, ma⟩ := ho
            obtain ⟨b, oo, mb, hb, r0⟩ := g.at_ _ _ hS
            rw [ma] at mb; cases mb
            obtain ⟨ws, rfl, rr⟩ := Obs.ls hc.1 r0
            obtain ⟨w, hw, rw'⟩ := rr.get hy
            obtain ⟨w1, rfl, hw1⟩ := reps1 hs
            cases (show w1 = V.int _ from hw1)
            obtain ⟨b1, b2, b3⟩ := ixN_bounds hj (small_le hc.2)
            rw [rr.length] at b3
            have ev := evo_put (o := .lst (ws.eraseIdx j)) (ys := ys.eraseIdx j) g hS ma
            exact mt_popAt pins s σ H _ _ u us Q I rv r ⟨a, ws, _, j, w, rfl, rfl, hb, b1, b2, b3, hw, k _ _ _ (good_put g hS ma (rr.eraseIdx j)) ev (rw'.mono g ev.w)⟩
          · cases e
        · cases e
      · cases e
    · cases e
  · -- index
    rename_i ys x
    split at e
    · rename_i hc
      rw [Bool.and_eq_true] at hc
      split at e
      · rename_i j hj
        cases e
        obtain ⟨a, ws, rfl, qa, ra⟩ := ho.lsR
        obtain ⟨w, rfl, hw⟩ := reps1 hs
        obtain ⟨hlt, h1, h2⟩ := List.findIdx?_eq_some_iff_getElem.mp hj
        obtain ⟨z, hz, rz⟩ := ra.get (List.getElem?_eq_getElem hlt)
        have fl : ∀ i (hi : i < ys.length), ys[i].flat = true := fun i hi => List.all_eq_true.mp hc.2 _ (List.getElem_mem hi)
        refine mt_index pins s σ H _ _ u us Q I rv r ⟨a, ws, w, j, z, rfl, rfl, qa.l, (flat_rep hc.1 hw).1, flats_rep hc.2 ra, hz, ?_, fun m z' hm hz' => ?_, k _ _ _ g (Evo.refl _ _ _) rfl⟩
        · rw [eqv_flat (fl j hlt) hc.1 rz hw]; exact h1
        · have hml : m < ys.length := by omega
          obtain ⟨z2, hz2, rz2⟩ := ra.get (List.getElem?_eq_getElem hml)
          rw [hz'] at hz2; cases hz2
          rw [eqv_flat (fl m hml) hc.1 rz2 hw]
          have := h2 m hm
          simpa using this
      · cases e
    · cases e
  · -- join
    split at e
    · rename_i ss hss
      split at e
      · rename_i hc
        cases e
        cases (show v = V.str _ from ho)
        obtain ⟨w, rfl, hw⟩ := reps1 hs
        obtain ⟨c, zs, rfl, qc, rc⟩ := hw.lsR
        have ew := reps_strs rc hss
        subst ew
        refine mt_join pins s σ H _ _ u us Q I rv r ⟨_, c, ss, rfl, rfl, .inl qc.l, by have := small_le hc; omega, k _ _ _ g (Evo.refl _ _ _) rfl⟩
      · cases e
    · cases e
  · -- split
    split at e
    · rename_i hc
      cases e
      rw [Bool.and_eq_true, Bool.not_eq_true'] at hc
      cases (show v = V.str _ from ho)
      obtain ⟨w, rfl, hw⟩ := reps1 hs
      cases (show w = V.str _ from hw)
      exact mt_split pins s σ H _ _ u us Q I rv r ⟨_, _, rfl, rfl, hc.2, by have := small_le hc.1; rw [sizeLine_eq]; omega, fun p hp => k _ _ _ (good_new g hp) (evo_new g hp) (rep_lst_new g hp (strs_reps _))⟩
    · cases e
  · -- lower
    split at e
    · rename_i hc
      cases e
      cases (show v = V.str _ from ho)
      cases (show vs = [] from hs)
      exact mt_lower pins s σ H _ _ u us Q I rv r ⟨_, rfl, rfl, by have := small_le hc; omega, k _ _ _ g (Evo.refl _ _ _) rfl⟩
    · cases e
  · cases e
    cases (show v = V.str _ from ho)
    cases (show vs = [] from hs)
    exact mt_isalpha pins s σ H _ _ u us Q I rv r ⟨_, rfl, rfl, trivial, k _ _ _ g (Evo.refl _ _ _) rfl⟩
  · cases e
    cases (show v = V.str _ from ho)
    cases (show vs = [] from hs)
    exact mt_isalnum pins s σ H _ _ u us Q I rv r ⟨_, rfl, rfl, trivial, k _ _ _ g (Evo.refl _ _ _) rfl⟩
  · cases e

def tyS : Ty → String
  | .int => "int"
  | .bool => "bool"
  | .str => "str"
  | .list => "list"
  | .tuple => "tuple"
  | .dict => "dict"
theorem kit_ty2 (K : PySem.W.Frag) (a b : Ty) : PySem.W.kitOne K (.type (tyS a)) (.type (tyS b)) = some (a == b || (a == .bool && b == .int)) := by
  cases a <;> cases b <;> kernel_rfl
theorem kit_ty3 (K : PySem.W.Frag) (b : Ty) : PySem.W.kitOne K (.type "NoneType") (.type (tyS b)) = some false := by
  cases b <;> kernel_rfl
theorem kit_isTy {K : PySem.W.Frag} {d : D} (t : Ty) : PySem.W.kitOne K (match tyOf d with | some u => .type (tyS u) | none => .type "NoneType") (.type (tyS t)) = some (isTy d t) := by
  unfold isTy
  cases tyOf d with
  | none => exact kit_ty3 K t
  | some u => exact kit_ty2 K u t
theorem kit_any {K : PySem.W.Frag} {d : D} : ∀ ts : List Ty, PySem.W.kitAny K (match tyOf d with | some u => .type (tyS u) | none => .type "NoneType") (ts.map fun t => Value.type (tyS t)) = some (ts.any (isTy d))
  | [] => rfl
  | t :: ts => by
    have e := kit_isTy (K := K) (d := d) t
    have ih := kit_any (K := K) (d := d) ts
    rw [List.map_cons, PySem.W.kitAny, e, List.any_cons]
    cases isTy d t with
    | true => rfl
    | false => exact ih
theorem ty_of {d : D} (nr : ∀ i, d ≠ .ref i) (h : Seen X.K S μ H d v) : TyX X.K H v (match tyOf d with | some u => .type (tyS u) | none => .type "NoneType") := by
  cases d with
  | non => cases (show v = V.non from h); exact .base .non
  | bl b => cases (show v = V.bl b from h); exact .base (.bl b)
  | int i => cases (show v = V.int i from h); exact .base (.int i)
  | str x => cases (show v = V.str x from h); exact .base (.str x)
  | tup ds =>
    obtain ⟨a, vs, rfl, q, _⟩ := h
    rcases q with (q | ⟨o, q⟩) | ⟨o, its, n, hk, hc, _⟩
    · exact .base (.tup q)
    · exact .fTuple q
    · exact .kTuple hk hc
  | lst ds =>
    obtain ⟨a, vs, rfl, q, _⟩ := h
    rcases q with (q | ⟨o, q⟩) | ⟨its, n, hk, _⟩
    · exact .base (.lst q)
    · exact .base (.frz q)
    · exact .kList hk rfl
  | ref i => exact absurd rfl (nr i)
  | cl _ _ => exact False.elim h
  | dct => obtain ⟨a, kvs, rfl, q⟩ := h; exact .base (.dK q)
theorem see_noref {S : Sto} {d d' : D} (e : see S d = some d') : ∀ i, d' ≠ .ref i := by
  intro i z
  subst z
  cases d with
  | ref j =>
    simp only [see] at e
    split at e
    · split at e <;> cases e
    · cases e
  | _ => cases e
end
end Iv

set_option Elab.async false
set_option linter.all false
set_option maxRecDepth 100000
set_option maxHeartbeats 1000000
namespace Iv
open PySem PySem.Spec PyProof.Rows L2

/-- an expression's reading -/
def tE (K : PySem.W.Frag) (F : CF) (e : E) : TE := fun σ H Q => ∃ (ρ : Env) (S : Sto) (μ : Mu) (d : D) (S' : Sto), Good K S μ H ∧ RelS K S μ H ρ σ ∧ ev F e ρ S = some (d, S') ∧ ContS K S μ H S' d Q
def tT (K : PySem.W.Frag) (F : CF) (e : E) : TT := fun σ H Q => ∃ (ρ : Env) (S : Sto) (μ : Mu) (b : Bool) (S' : Sto), Good K S μ H ∧ RelS K S μ H ρ σ ∧ ev F e ρ S = some (.bl b, S') ∧
  ∀ μ' H', Good K S' μ' H' → Evo S μ H S' μ' H' → Q b H'
def tA (K : PySem.W.Frag) (F : CF) (es : Es) : TA := fun σ H Q => ∃ (ρ : Env) (S : Sto) (μ : Mu) (xs : List D) (S' : Sto), Good K S μ H ∧ RelS K S μ H ρ σ ∧ evs F es ρ S = some (xs, S') ∧
  ∀ vs μ' H', Good K S' μ' H' → Evo S μ H S' μ' H' → Reps K S' μ' H' xs vs → Q vs H'

theorem PE.weak {X : Cx} {e : Expr} {t t' : TE} (h : PE X e t) (k : ∀ σ H Q, t' σ H Q → t σ H Q) : PE X e t' := ⟨fun pins s σ H Q I q => h.run pins s σ H Q I (k σ H Q q)⟩
theorem PT.weak {X : Cx} {e : Expr} {t t' : TT} (h : PT X e t) (k : ∀ σ H Q, t' σ H Q → t σ H Q) : PT X e t' := ⟨fun pins s σ H Q I q => h.run pins s σ H Q I (k σ H Q q)⟩

/-- what is known of the code that runs -/
structure Cok (X : Cx) : Prop where
  nd : X.N.Nodup
  calm : X.calm = true
  gd : X.A.guards = some []
  un : X.A.units + 200 < cLine

section
variable {X : Cx} {F : CF} {a b c e : Expr} {es : List Expr} {ia ib ic ie : E} {ies : Es} {pos : Pos}

theorem i_v {i : Nat} {x : Str} (hN : X.N[i]? = some x) (hv : Vis X.env.scope x) (hd : (x == ("__debug__" : Str)) = false := by decide) (hcd : (x == ("__classdict__" : Str)) = false := by decide) : PE X (.Name x pos) (tE X.K F (.v i)) :=
  PE.weak (pe_var hN hv hd hcd) fun σ H Q ⟨ρ, S, μ, d, S', g, r, q, k⟩ => by
    simp only [ev] at q
    split at q
    · rename_i d' hd'
      cases q
      obtain ⟨v, h1, h2⟩ := r.at_ i _ hd'
      exact ⟨v, h1, k v μ H g (Evo.refl _ _ _) h2⟩
    · cases q
theorem i_frz {i : Nat} {x : Str} (hN : X.N[i]? = some x) (hv : Vis X.env.scope x) (hd : (x == ("__debug__" : Str)) = false := by decide) (hcd : (x == ("__classdict__" : Str)) = false := by decide) : PE X (.Name x pos) (tE X.K F (.frz i)) :=
  PE.weak (pe_var hN hv hd hcd) fun σ H Q ⟨ρ, S, μ, d, S', g, r, q, k⟩ => by
    simp only [ev] at q
    split at q
    · rename_i j hj
      split at q
      · rename_i xs hS
        split at q
        · cases q
        rename_i no
        cases q
        obtain ⟨v, h1, h2⟩ := r.at_ i _ hj
        exact ⟨v, h1, k v μ H (good_drop g) evo_drop (rep_drop g hS (by simpa using no) h2)⟩
      · cases q
    · cases q
/-- behind a deep look -/
abbrev DeepOk (K : PySem.W.Frag) (f : D → Sto → Option (D × Sto)) : Prop := ∀ (d d' : D) (S S' : Sto) (μ : Mu) (H : Hp) (v : V), f d S = some (d', S') → Good K S μ H → Rep K S μ H d v → Good K S' μ H ∧ Evo S μ H S' μ H ∧ Rep K S' μ H d' v
theorem mapS_ok {K : PySem.W.Frag} {f : D → Sto → Option (D × Sto)} (hf : DeepOk K f) : ∀ (xs ys : List D) (S S' : Sto) (μ : Mu) (H : Hp) (vs : List V), mapS f xs S = some (ys, S') → Good K S μ H → Reps K S μ H xs vs → Good K S' μ H ∧ Evo S μ H S' μ H ∧ Reps K S' μ H ys vs
  | [], ys, S, S', μ, H, vs, e, g, r => by
    unfold mapS at e
    cases e
    exact ⟨g, Evo.refl _ _ _, r⟩
  | x :: xs, ys, S, S', μ, H, vs, e, g, r => by
    obtain ⟨v, ws, rfl, r1, r2⟩ := r
    unfold mapS at e
    split at e
    · cases e
    · rename_i y S1 e1
      split at e
      · cases e
      · rename_i zs S2 e2
        cases e
        obtain ⟨g1, v1, q1⟩ := hf x y S S1 μ H v e1 g r1
        obtain ⟨g2, v2, q2⟩ := mapS_ok hf xs zs S1 S' μ H ws e2 g1 (r2.mono g v1.w)
        exact ⟨g2, v1.trans v2, v, ws, rfl, q1.mono g1 v2.w, q2⟩
theorem deep_ok {K : PySem.W.Frag} : ∀ n : Nat, DeepOk K (deep n)
  | 0 => fun d d' S S' μ H v e g r => by simp [deep] at e
  | n + 1 => fun d d' S S' μ H v e g r => by
    cases d with
    | ref j =>
      unfold deep at e
      split at e
      · rename_i xs hS
        split at e
        · cases e
        · rename_i no
          split at e
          · rename_i ys S1 e1
            cases e
            have no' : isObj xs = false := by simpa using no
            obtain ⟨a, vs, rfl, q, rr⟩ := rep_drop g hS no' r
            obtain ⟨g1, v1, r1⟩ := mapS_ok (deep_ok n) xs ys _ S' μ H vs e1 (good_drop g) rr
            refine ⟨g1, (evo_drop (H := H)).trans v1, a, vs, rfl, ?_, r1⟩
            exact q.elim (fun z => .inl (rdL v1.w z.1 z.2)) .inr
          · cases e
      · cases e
    | lst xs =>
      unfold deep at e
      split at e
      · rename_i ys S1 e1
        cases e
        obtain ⟨a, vs, rfl, q, rr⟩ := r
        obtain ⟨g1, v1, r1⟩ := mapS_ok (deep_ok n) xs ys _ S' μ H vs e1 g rr
        exact ⟨g1, v1, a, vs, rfl, q.elim (fun z => .inl (rdL v1.w z.1 z.2)) .inr, r1⟩
      · cases e
    | tup xs =>
      unfold deep at e
      split at e
      · rename_i ys S1 e1
        cases e
        obtain ⟨a, vs, rfl, q, rr⟩ := r
        obtain ⟨g1, v1, r1⟩ := mapS_ok (deep_ok n) xs ys _ S' μ H vs e1 g rr
        exact ⟨g1, v1, a, vs, rfl, sqT_mono g v1.w q, r1⟩
      · cases e
    | non => unfold deep at e; cases e; exact ⟨g, Evo.refl _ _ _, r⟩
    | bl b => unfold deep at e; cases e; exact ⟨g, Evo.refl _ _ _, r⟩
    | int i => unfold deep at e; cases e; exact ⟨g, Evo.refl _ _ _, r⟩
    | str x => unfold deep at e; cases e; exact ⟨g, Evo.refl _ _ _, r⟩
    | cl x ns => unfold deep at e; cases e; exact ⟨g, Evo.refl _ _ _, r⟩
    | dct => unfold deep at e; cases e; exact ⟨g, Evo.refl _ _ _, r⟩
theorem i_frzD {i : Nat} {x : Str} (hN : X.N[i]? = some x) (hv : Vis X.env.scope x) (hd : (x == ("__debug__" : Str)) = false := by decide) (hcd : (x == ("__classdict__" : Str)) = false := by decide) : PE X (.Name x pos) (tE X.K F (.frzD i)) :=
  PE.weak (pe_var hN hv hd hcd) fun σ H Q ⟨ρ, S, μ, d, S', g, r, q, k⟩ => by
    simp only [ev] at q
    split at q
    · rename_i d0 hj
      obtain ⟨v, h1, h2⟩ := r.at_ i _ hj
      obtain ⟨g1, v1, r1⟩ := deep_ok 1000 d0 d S S' μ H v q g h2
      exact ⟨v, h1, k v μ H g1 v1 r1⟩
    · cases q
theorem i_c {d : D} {v : V} (h : PE X e (tC v)) (r : ∀ S μ H, Rep X.K S μ H d v) : PE X e (tE X.K F (.c d)) :=
  PE.weak h fun σ H Q ⟨ρ, S, μ, d', S', g, _, q, k⟩ => by
    simp only [ev] at q
    cases q
    exact k v μ H g (Evo.refl _ _ _) (r _ _ _)
theorem i_int {i : Int} {j : Nat} : PE X (.Constant (.int i) j pos) (tE X.K F (.c (.int i))) := i_c pe_int fun _ _ _ => rfl
theorem i_bl {b : Bool} {j : Nat} : PE X (.Constant (.bool b) j pos) (tE X.K F (.c (.bl b))) := i_c pe_bl fun _ _ _ => rfl
theorem i_non {j : Nat} : PE X (.Constant .none j pos) (tE X.K F (.c .non)) := i_c pe_non fun _ _ _ => rfl
theorem i_str {x : Str} {j : Nat} : PE X (.Constant (.str x) j pos) (tE X.K F (.c (.str x))) := i_c pe_str fun _ _ _ => rfl
/-- an expression that is never reached -/
theorem i_bad {e : Expr} : PE X e (tE X.K F (.neg (.c .non))) := ⟨fun pins s σ H Q I ⟨ρ, S, μ, d, S', g, _, q, _⟩ => by
  simp only [ev] at q
  cases q⟩
/-- a constant of the module -/
structure GlobOk (K : PySem.W.Frag) (mg : Str → Option Value) (x : Str) (d : D) : Prop where
  ex : ∃ u v, mg x = some u ∧ RelV v u ∧ ∀ S μ H, Rep K S μ H d v
theorem i_g {x : Str} {d : D} (hg : Gl X x) (G : GlobOk X.K X.mg x d) (hd : (x == ("__debug__" : Str)) = false := by decide) : PE X (.Name x pos) (tE X.K F (.g x d)) := by
  obtain ⟨u, v, h1, h2, h3⟩ := G.ex
  exact PE.weak (pe_glob hg h1 h2 hd) fun σ H Q ⟨ρ, S, μ, d', S', g, _, q, k⟩ => by
    simp only [ev] at q
    cases q
    exact k v μ H g (Evo.refl _ _ _) (h3 _ _ _)

def rOp (K : PySem.W.Frag) (o : Operator) : R2 := fun v w H Q => ∃ S μ x y z, Good K S μ H ∧ Seen K S μ H x v ∧ Seen K S μ H y w ∧ opD o x y = some z ∧ Cont K S μ H z Q
theorem op_I (o : Operator) : OpR X (binaryOp o) (rOp X.K o) := by
  intro pins s σ H v w u1 u2 Q I r1 r2 h
  obtain ⟨S, μ, x, y, z, g, hx, hy, e, k⟩ := h
  exact opD_run e I g hx hy r1 r2 k
/-- two parts, one behind the other -/
theorem two {K : PySem.W.Frag} {σ : L2.St} {H : Hp} {ρ : Env} {S S1 S2 : Sto} {μ : Mu} {x y : D} {R : V → V → Hp → Prop} (g : Good K S μ H) (r : RelS K S μ H ρ σ) (ea : ev F ia ρ S = some (x, S1)) (eb : ev F ib ρ S1 = some (y, S2))
    (k : ∀ v w μ2 H2, Good K S2 μ2 H2 → Evo S μ H S2 μ2 H2 → Rep K S2 μ2 H2 x v → Rep K S2 μ2 H2 y w → R v w H2) : tE K F ia σ H fun v H1 => tE K F ib σ H1 fun w H2 => R v w H2 :=
  ⟨ρ, S, μ, x, S1, g, r, ea, fun v μ1 H1 g1 e1 rv => ⟨ρ, S1, μ1, y, S2, g1, r.mono g e1.w, eb, fun w μ2 H2 g2 e2 rw => k v w μ2 H2 g2 (e1.trans e2) (rv.mono g1 e2.w) rw⟩⟩
theorem i_op {o : Operator} (ha : PE X a (tE X.K F ia)) (hb : PE X b (tE X.K F ib)) : PE X (.BinOp a o b pos) (tE X.K F (.op o ia ib)) :=
  PE.weak (pe_op (op_I o) ha hb) fun σ H Q ⟨ρ, S, μ, d, S', g, r, q, k⟩ => by
    simp only [ev] at q
    split at q
    · cases q
    · rename_i x S1 ea
      split at q
      · cases q
      · rename_i y S2 eb
        split at q
        · rename_i x' y' sx sy
          split at q
          · rename_i z ez
            cases q
            exact two g r ea eb fun v w μ2 H2 g2 e2 rx ry => ⟨_, μ2, x', y', _, g2, see_ok g2 rx sx, see_ok g2 ry sy, ez, fun v' H' g3 e3 rz => k v' μ2 H' g3 (e2.trans e3) rz⟩
          · cases q
        · cases q
theorem i_neg (ha : PE X a (tE X.K F ia)) : PE X (.UnaryOp .USub a pos) (tE X.K F (.neg ia)) :=
  PE.weak (pe_un un_neg ha) fun σ H Q ⟨ρ, S, μ, d, S', g, r, q, k⟩ => by
    simp only [ev] at q
    split at q
    · rename_i i S1 ea
      cases q
      exact ⟨ρ, S, μ, _, _, g, r, ea, fun v μ1 H1 g1 e1 rv => ⟨i, rv, k _ _ _ g1 e1 rfl⟩⟩
    · cases q
def rCmp (K : PySem.W.Frag) (o : CmpOp) : R2 := fun v w H Q => ∃ S μ x y b, Good K S μ H ∧ Seen K S μ H x v ∧ Seen K S μ H y w ∧ cmpD o x y = some b ∧ Q (.bl b) H
theorem cmp_I (ok : Cok X) (o : CmpOp) : OpR X (compareOp o) (rCmp X.K o) := by
  intro pins s σ H v w u1 u2 Q I r1 r2 h
  obtain ⟨S, μ, x, y, z, g, hx, hy, e, q⟩ := h
  exact cmpD_run (by have := ok.un; omega) e I hx hy r1 r2 q
theorem cmp_read {o : CmpOp} {σ : L2.St} {H : Hp} {Q : VK} : tE X.K F (.cmp o ia ib) σ H Q → tOp (rCmp X.K o) (tE X.K F ia) (tE X.K F ib) σ H Q := fun ⟨ρ, S, μ, d, S', g, r, q, k⟩ => by
  simp only [ev] at q
  split at q
  · cases q
  · rename_i x S1 ea
    split at q
    · cases q
    · rename_i y S2 eb
      split at q
      · rename_i x' y' sx sy
        split at q
        · rename_i z ez
          cases q
          exact two g r ea eb fun v w μ2 H2 g2 e2 rx ry => ⟨_, μ2, x', y', _, g2, see_ok g2 rx sx, see_ok g2 ry sy, ez, k _ _ _ g2 e2 rfl⟩
        · cases q
      · cases q
theorem i_cmp {o : CmpOp} (ok : Cok X) (ha : PE X a (tE X.K F ia)) (hb : PE X b (tE X.K F ib)) (hm : behindInMarks o b = false := by first | exact nobehind _ (by decide) (by decide) | rfl) : PE X (.Compare a [o] [b] pos) (tE X.K F (.cmp o ia ib)) :=
  PE.weak (pe_cmpR (cmp_I ok o) ha hb hm) fun σ H Q h => cmp_read h
theorem tT_tE {K : PySem.W.Frag} {σ : L2.St} {H : Hp} {Q : Bool → Hp → Prop} (h : tT K F ia σ H Q) : tE K F ia σ H fun x H' => ∃ k, x = .bl k ∧ Q k H' := by
  obtain ⟨ρ, S, μ, b, S', g, r, q, k⟩ := h
  exact ⟨ρ, S, μ, _, _, g, r, q, fun v μ1 H1 g1 e1 rv => ⟨b, rv, k _ _ g1 e1⟩⟩
theorem t_cmp {o : CmpOp} (ok : Cok X) (ha : PE X a (tE X.K F ia)) (hb : PE X b (tE X.K F ib)) (hm : behindInMarks o b = false := by first | exact nobehind _ (by decide) (by decide) | rfl) : PT X (.Compare a [o] [b] pos) (tT X.K F (.cmp o ia ib)) :=
  PT.weak (pt_cmpR (cmp_I ok o) ha hb hm) fun σ H Q h => cmp_read (tT_tE h)
/-- an expression as a test -/
theorem t_e (ha : PE X a (tE X.K F ia)) (he : ∀ whole, isTrue a X.env whole = (do let v ← whole; standAt a.pos; holding [v] (truthy v)) := by intro _; rfl) : PT X a (tT X.K F ia) :=
  PT.weak (pt_val ha he) fun σ H Q h => tT_tE h
theorem chain_read {o p : CmpOp} {σ : L2.St} {H : Hp} {Q : VK} : tE X.K F (.chain o p ia ib ic) σ H Q → tChain (rCmp X.K o) (rCmp X.K p) (tE X.K F ia) (tE X.K F ib) (tE X.K F ic) σ H Q := fun ⟨ρ, S, μ, d, S', g, r, q, k⟩ => by
  simp only [ev] at q
  split at q
  · cases q
  · rename_i x S1 ea
    split at q
    · cases q
    · rename_i y S2 eb
      split at q
      · rename_i x' y' sx sy
        split at q
        · cases q
        · rename_i ez
          cases q
          exact two g r ea eb fun v w μ2 H2 g2 e2 rx ry => ⟨_, μ2, x', y', _, g2, see_ok g2 rx sx, see_ok g2 ry sy, ez, false, rfl, by show (if false = true then _ else _); rw [if_neg Bool.false_ne_true]; exact k _ _ _ g2 e2 rfl⟩
        · rename_i ez
          split at q
          · cases q
          · rename_i z S3 ec
            split at q
            · rename_i y2 z2 sy2 sz2
              split at q
              · rename_i r2 er
                cases q
                refine two g r ea eb fun v w μ2 H2 g2 e2 rx ry => ⟨_, μ2, x', y', _, g2, see_ok g2 rx sx, see_ok g2 ry sy, ez, true, rfl, ?_⟩
                rw [if_pos rfl]
                exact ⟨ρ, S2, μ2, z, _, g2, r.mono g e2.w, ec, fun v3 μ3 H3 g3 e3 rz => ⟨_, μ3, y2, z2, _, g3, see_ok g3 (ry.mono g2 e3.w) sy2, see_ok g3 rz sz2, er, k _ _ _ g3 (e2.trans e3) rfl⟩⟩
              · cases q
            · cases q
      · cases q
theorem i_chain {o p : CmpOp} (ok : Cok X) (ha : PE X a (tE X.K F ia)) (hb : PE X b (tE X.K F ib)) (hc : PE X c (tE X.K F ic)) (hm : lastMarks [o, p] [b, c] = false := by with_unfolding_all rfl) : PE X (.Compare a [o, p] [b, c] pos) (tE X.K F (.chain o p ia ib ic)) :=
  PE.weak (pe_chain (cmp_I ok o) (cmp_I ok p) ha hb hc hm) fun σ H Q h => chain_read h
theorem t_chain {o p : CmpOp} (ok : Cok X) (ha : PE X a (tE X.K F ia)) (hb : PE X b (tE X.K F ib)) (hc : PE X c (tE X.K F ic)) (hm : lastMarks [o, p] [b, c] = false := by with_unfolding_all rfl) : PT X (.Compare a [o, p] [b, c] pos) (tT X.K F (.chain o p ia ib ic)) :=
  PT.weak (pt_chain (cmp_I ok o) (cmp_I ok p) ha hb hc hm) fun σ H Q h => chain_read (tT_tE h)

theorem i_one {o : BoolOp} (ha : PE X a (tE X.K F ia)) : PE X (.BoolOp o [a] pos) (tE X.K F ia) := pe_one ha
theorem i_and (ha : PE X a (tE X.K F ia)) (hb : PE X (.BoolOp .And (b :: es) pos) (tE X.K F ib)) : PE X (.BoolOp .And (a :: b :: es) pos) (tE X.K F (.and ia ib)) :=
  PE.weak (pe_and ha hb) fun σ H Q ⟨ρ, S, μ, d, S', g, r, q, k⟩ => by
    simp only [ev] at q
    split at q
    · rename_i S1 ea
      exact ⟨ρ, S, μ, _, _, g, r, ea, fun v μ1 H1 g1 e1 rv => ⟨true, rv, by show (if true = true then _ else _); rw [if_pos rfl]; exact ⟨ρ, S1, μ1, _, _, g1, r.mono g e1.w, q, fun w μ2 H2 g2 e2 rw => k _ _ _ g2 (e1.trans e2) rw⟩⟩⟩
    · rename_i S1 ea
      cases q
      exact ⟨ρ, S, μ, _, _, g, r, ea, fun v μ1 H1 g1 e1 rv => ⟨false, rv, by show (if false = true then _ else _); rw [if_neg Bool.false_ne_true]; exact k _ _ _ g1 e1 rfl⟩⟩
    · cases q
theorem i_or (ha : PE X a (tE X.K F ia)) (hb : PE X (.BoolOp .Or (b :: es) pos) (tE X.K F ib)) : PE X (.BoolOp .Or (a :: b :: es) pos) (tE X.K F (.or ia ib)) :=
  PE.weak (pe_or ha hb) fun σ H Q ⟨ρ, S, μ, d, S', g, r, q, k⟩ => by
    simp only [ev] at q
    split at q
    · rename_i S1 ea
      cases q
      exact ⟨ρ, S, μ, _, _, g, r, ea, fun v μ1 H1 g1 e1 rv => ⟨true, rv, by show (if true = true then _ else _); rw [if_pos rfl]; exact k _ _ _ g1 e1 rfl⟩⟩
    · rename_i S1 ea
      exact ⟨ρ, S, μ, _, _, g, r, ea, fun v μ1 H1 g1 e1 rv => ⟨false, rv, by show (if false = true then _ else _); rw [if_neg Bool.false_ne_true]; exact ⟨ρ, S1, μ1, _, _, g1, r.mono g e1.w, q, fun w μ2 H2 g2 e2 rw => k _ _ _ g2 (e1.trans e2) rw⟩⟩⟩
    · cases q
theorem i_not (ha : PE X a (tE X.K F ia)) : PE X (.UnaryOp .Not a pos) (tE X.K F (.not ia)) :=
  PE.weak (pe_not ha) fun σ H Q ⟨ρ, S, μ, d, S', g, r, q, k⟩ => by
    simp only [ev] at q
    split at q
    · rename_i b S1 ea
      cases q
      exact ⟨ρ, S, μ, _, _, g, r, ea, fun v μ1 H1 g1 e1 rv => ⟨b, rv, k _ _ _ g1 e1 rfl⟩⟩
    · cases q
theorem i_ite (hc : PT X c (tT X.K F ic)) (ha : PE X a (tE X.K F ia)) (hb : PE X b (tE X.K F ib)) : PE X (.IfExp c a b pos) (tE X.K F (.ite ic ia ib)) :=
  PE.weak (pe_ifExp hc ha hb) fun σ H Q ⟨ρ, S, μ, d, S', g, r, q, k⟩ => by
    simp only [ev] at q
    split at q
    · rename_i S1 ea
      exact ⟨ρ, S, μ, true, _, g, r, ea, fun μ1 H1 g1 e1 => by show (if true = true then _ else _); rw [if_pos rfl]; exact ⟨ρ, S1, μ1, _, _, g1, r.mono g e1.w, q, fun w μ2 H2 g2 e2 rw => k _ _ _ g2 (e1.trans e2) rw⟩⟩
    · rename_i S1 ea
      exact ⟨ρ, S, μ, false, _, g, r, ea, fun μ1 H1 g1 e1 => by show (if false = true then _ else _); rw [if_neg Bool.false_ne_true]; exact ⟨ρ, S1, μ1, _, _, g1, r.mono g e1.w, q, fun w μ2 H2 g2 e2 rw => k _ _ _ g2 (e1.trans e2) rw⟩⟩
    · cases q
abbrev PWI (X : Cx) (F : CF) (e : Expr) (ie : E) : Prop := PW X e (tT X.K F ie)
theorem PW.weak {X : Cx} {e : Expr} {t t' : TT} (h : PW X e t) (k : ∀ σ H Q, t' σ H Q → t σ H Q) : PW X e t' := ⟨fun wh pins s σ H Q I q => h.run wh pins s σ H Q I (k σ H Q q)⟩
theorem tT_eta {K : PySem.W.Frag} {σ : L2.St} {H : Hp} {Q : Bool → Hp → Prop} (h : tT K F ia σ H Q) (k : ∀ b H', Q b H' → Q (if b = true then true else false) H') : True := trivial
theorem w_and1 (ha : PT X a (tT X.K F ia)) : PW X (.BoolOp .And [a] pos) (tT X.K F ia) := pw_and1 ha
theorem w_or1 (ha : PT X a (tT X.K F ia)) : PW X (.BoolOp .Or [a] pos) (tT X.K F ia) := pw_or1 ha
theorem w_and (ha : PT X a (tT X.K F ia)) (hb : PW X (.BoolOp .And (b :: es) pos) (tT X.K F ib)) : PW X (.BoolOp .And (a :: b :: es) pos) (tT X.K F (.and ia ib)) :=
  PW.weak (pw_and ha hb) fun σ H Q ⟨ρ, S, μ, d, S', g, r, q, k⟩ => by
    simp only [ev] at q
    split at q
    · rename_i S1 ea
      exact ⟨ρ, S, μ, true, _, g, r, ea, fun μ1 H1 g1 e1 => by show (if true = true then _ else _); rw [if_pos rfl]; exact ⟨ρ, S1, μ1, _, _, g1, r.mono g e1.w, q, fun μ2 H2 g2 e2 => k _ _ g2 (e1.trans e2)⟩⟩
    · rename_i S1 ea
      cases q
      exact ⟨ρ, S, μ, false, _, g, r, ea, fun μ1 H1 g1 e1 => by show (if false = true then _ else _); rw [if_neg Bool.false_ne_true]; exact k _ _ g1 e1⟩
    · cases q
theorem w_or (ha : PT X a (tT X.K F ia)) (hb : PW X (.BoolOp .Or (b :: es) pos) (tT X.K F ib)) : PW X (.BoolOp .Or (a :: b :: es) pos) (tT X.K F (.or ia ib)) :=
  PW.weak (pw_or ha hb) fun σ H Q ⟨ρ, S, μ, d, S', g, r, q, k⟩ => by
    simp only [ev] at q
    split at q
    · rename_i S1 ea
      cases q
      exact ⟨ρ, S, μ, true, _, g, r, ea, fun μ1 H1 g1 e1 => by show (if true = true then _ else _); rw [if_pos rfl]; exact k _ _ g1 e1⟩
    · rename_i S1 ea
      exact ⟨ρ, S, μ, false, _, g, r, ea, fun μ1 H1 g1 e1 => by show (if false = true then _ else _); rw [if_neg Bool.false_ne_true]; exact ⟨ρ, S1, μ1, _, _, g1, r.mono g e1.w, q, fun μ2 H2 g2 e2 => k _ _ g2 (e1.trans e2)⟩⟩
    · cases q
theorem t_w (h : PW X a (tT X.K F ia)) : PT X a (tT X.K F ia) := h.pt
theorem t_not (ha : PT X a (tT X.K F ia)) : PT X (.UnaryOp .Not a pos) (tT X.K F (.not ia)) :=
  PT.weak (pt_not ha) fun σ H Q ⟨ρ, S, μ, d, S', g, r, q, k⟩ => by
    simp only [ev] at q
    split at q
    · rename_i b S1 ea
      cases q
      exact ⟨ρ, S, μ, b, _, g, r, ea, fun μ1 H1 g1 e1 => k _ _ g1 e1⟩
    · cases q

theorem PA.weak {X : Cx} {e : List Expr} {t t' : TA} (h : PA X e t) (k : ∀ σ H Q, t' σ H Q → t σ H Q) : PA X e t' := ⟨fun p pins s σ H Q I q => h.run p pins s σ H Q I (k σ H Q q)⟩
theorem a_nil : PA X [] (tA X.K F .nil) := PA.weak pa_nil fun σ H Q ⟨ρ, S, μ, d, S', g, r, q, k⟩ => by
  simp only [evs] at q
  cases q
  exact k [] μ H g (Evo.refl _ _ _) rfl
theorem a_cons (ha : PE X a (tE X.K F ia)) (hr : PA X es (tA X.K F ies)) (hs : starEach (a :: es) X.env = (false, eval a X.env) :: starEach es X.env := by rfl) : PA X (a :: es) (tA X.K F (.cons ia ies)) :=
  PA.weak (pa_cons ha hr hs) fun σ H Q ⟨ρ, S, μ, d, S', g, r, q, k⟩ => by
    simp only [evs] at q
    split at q
    · cases q
    · rename_i x S1 ea
      split at q
      · cases q
      · rename_i xs S2 eb
        cases q
        exact ⟨ρ, S, μ, x, S1, g, r, ea, fun v μ1 H1 g1 e1 rv => ⟨ρ, S1, μ1, xs, _, g1, r.mono g e1.w, eb, fun vs μ2 H2 g2 e2 rw => k _ _ _ g2 (e1.trans e2) ⟨v, vs, rfl, rv.mono g1 e2.w, rw⟩⟩⟩
theorem star_lst {pins : List (Addr × Obj)} {σ : L2.St} {H : Hp} {s : Shared} {p : Addr} {xs : List V} {E : Value → Shared → Prop} {Q : List Value → Shared → Prop} (I : Inv X pins σ H s) (h : SqP X.K H p xs) (hQ : ∀ us s', Inv X pins σ H s' → Vals xs us → Q us s') :
    PySem.W.StarOf (model X.prog X.w) X.A E (.ref p) Q s := by
  obtain ⟨z, its, n, r, hl, ho⟩ := h.plain I
  have hT : s.TypeIs (.ref p) "list" := ⟨_, ho, rfl⟩
  have q : wpAny (model X.prog X.w) X.A (collect (.ref p)) Q E s := by
    refine wpAny_collect_seq p (.inl rfl) ho rfl rfl (fun h' hk => ?_) (by rw [List.size_toArray]; omega)
    have e : its.toArray.toList = its := by simp
    rw [e]
    exact hQ its _ (I.kept (t' := s.toks) hk) r
  unfold PySem.W.StarOf notIterableAtAll
  exact wpAny_bind (wpAny_specialOf hT PySem.F.slot_list_iter.lookup (wpAny_pure ⟨rfl, q⟩))
theorem a_star {p : Pos} (ha : PE X a (tE X.K F ia)) (hr : PA X es (tA X.K F ies)) : PA X (.Starred a p :: es) (tA X.K F (.star ia ies)) := by
  refine ⟨fun pos pins s σ H Q I ⟨ρ, S, μ, d, S', g, r, q, k⟩ => ?_⟩
  simp only [evs] at q
  split at q
  · cases q
  · rename_i x S1 ea
    have more : ∀ (ys xs : List D) (S2 : Sto), evs F ies ρ S1 = some (xs, S2) → (∀ vs μ' H', Good X.K S2 μ' H' → Evo S μ H S2 μ' H' → Reps X.K S2 μ' H' (ys ++ xs) vs → Q vs H') →
        ∀ (s2 : Shared) (us : List Value) (ws : List V) (μ1 : Mu) (H1 : Hp), Inv X pins σ H1 s2 → Good X.K S1 μ1 H1 → Evo S μ H S1 μ1 H1 → Reps X.K S1 μ1 H1 ys ws → Vals ws us →
        wpAny (model X.prog X.w) X.A (spliced (backTo pos (starEach es X.env))) (fun vs s3 => AP X pins σ Q (us ++ vs) s3) X.xe s2 := fun ys xs S2 eb k s2 us ws μ1 H1 I1 g1 e1 rys rus => by
      refine thn (hr.run pos pins s2 σ H1 (fun vs H2 => ∃ μ2, Good X.K S2 μ2 H2 ∧ Evo S μ H S2 μ2 H2 ∧ Reps X.K S2 μ2 H2 (ys ++ xs) (ws ++ vs)) I1 ⟨ρ, S1, μ1, xs, S2, g1, r.mono g e1.w, eb, fun vs μ2 H2 g2 e2 rx => ⟨μ2, g2, e1.trans e2, (rys.mono g1 e2.w).append rx⟩⟩) ?_
      rintro zs s3 ⟨vs, H2, I2, rz, μ2, g2, e2, rr⟩
      exact ⟨ws ++ vs, H2, I2, rus.append rz, k _ μ2 H2 g2 e2 rr⟩
    show wpAny _ _ (spliced ((true, (do let v ← eval a X.env; standAt pos; pure v)) :: backTo pos (starEach es X.env))) _ _ _
    refine PySem.W.ks_spliced (pos := pos) (thn (ha.run pins s σ H (fun v H1 => ∃ μ1, Good X.K S1 μ1 H1 ∧ Evo S μ H S1 μ1 H1 ∧ Rep X.K S1 μ1 H1 x v) I ⟨ρ, S, μ, x, S1, g, r, ea, fun v μ1 H1 g1 e1 rv => ⟨μ1, g1, e1, rv⟩⟩) ?_)
    rintro u s1 ⟨v, H1, I1, ru, μ1, g1, e1, rv⟩
    split at q
    · rename_i ys sy
      split at q
      · cases q
      · rename_i xs S2 eb
        cases q
        obtain ⟨p', ws, rfl, qa, ra⟩ := see_ok g1 rv sy
        cases (show u = Value.ref p' from ru)
        exact star_lst I1 qa fun us s2 I2 rus => more ys xs _ eb k s2 us ws μ1 H1 I2 g1 e1 ra rus
    · rename_i ys sy
      split at q
      · cases q
      · rename_i xs S2 eb
        cases q
        obtain ⟨p', ws, rfl, qa, ra⟩ := see_ok g1 rv sy
        cases (show u = Value.ref p' from ru)
        exact star_tup I1 qa fun us s2 I2 rus => more ys xs _ eb k s2 us ws μ1 H1 I2 g1 e1 ra rus
    · cases q
theorem i_tup {x1 : Nat} (h : PA X es (tA X.K F ies)) : PE X (.Tuple es x1 pos) (tE X.K F (.tup ies)) :=
  PE.weak (pe_tup h) fun σ H Q ⟨ρ, S, μ, d, S', g, r, q, k⟩ => by
    simp only [ev] at q
    split at q
    · rename_i xs S1 ea
      split at q
      · rename_i hz
        cases q
        exact ⟨ρ, S, μ, xs, _, g, r, ea, fun vs μ1 H1 g1 e1 rv => ⟨by rw [← rv.length]; exact small_line hz, fun p hp => k _ _ _ (good_new g1 hp) (e1.trans (evo_new g1 hp)) (rep_tup_new g1 hp rv)⟩⟩
      · cases q
    · cases q
theorem i_lst (h : PA X es (tA X.K F ies)) : PE X (.List es pos) (tE X.K F (.lst ies)) :=
  PE.weak (pe_lst h) fun σ H Q ⟨ρ, S, μ, d, S', g, r, q, k⟩ => by
    simp only [ev] at q
    split at q
    · rename_i xs S1 ea
      split at q
      · rename_i hz
        cases q
        exact ⟨ρ, S, μ, xs, _, g, r, ea, fun vs μ1 H1 g1 e1 rv => ⟨by rw [← rv.length]; exact small_line hz, fun p hp => k _ _ _ (good_new g1 hp) (e1.trans (evo_new g1 hp)) (rep_lst_new g1 hp rv)⟩⟩
      · cases q
    · cases q
theorem i_new (h : PA X es (tA X.K F ies)) : PE X (.List es pos) (tE X.K F (.new ies)) :=
  PE.weak (pe_lst h) fun σ H Q ⟨ρ, S, μ, d, S', g, r, q, k⟩ => by
    simp only [ev] at q
    split at q
    · rename_i xs S1 ea
      split at q
      · rename_i hz
        unfold mkList at q
        rw [if_pos rfl] at q
        cases q
        exact ⟨ρ, S, μ, xs, _, g, r, ea, fun vs μ1 H1 g1 e1 rv => ⟨by rw [← rv.length]; exact small_line hz, fun p hn => k _ _ _ (good_mk g1 hn rv) (e1.trans (evo_mk g1 hn)) ⟨p, rfl, get_last g1.len⟩⟩⟩
      · cases q
    · cases q

theorem zip_look {K : PySem.W.Frag} {S : Sto} {μ : Mu} {H : Hp} {f : Str} : ∀ (ns : List Str) (fs : List D) (vs : List V) (d : D), Reps K S μ H fs vs → (ns.zip fs).lookup f = some d → ∃ v, (ns.zip vs).lookup f = some v ∧ Rep K S μ H d v
  | [], fs, vs, d, _, h => by simp at h
  | _ :: _, [], vs, d, _, h => by simp at h
  | n :: ns, c :: fs, vs, d, ⟨v, r, e, h1, h2⟩, h => by
    subst e
    simp only [List.zip_cons_cons, List.lookup] at h ⊢
    cases q : f == n with
    | true =>
      rw [q] at h
      cases h
      exact ⟨v, rfl, h1⟩
    | false =>
      rw [q] at h
      exact zip_look ns fs r d h2 h
theorem look_none {α : Type} {f : Str} : ∀ (ns : List Str) (vs : List α), ns.contains f = false → (ns.zip vs).lookup f = none
  | [], _, _ => by simp
  | _ :: _, [], _ => by simp
  | n :: ns, v :: vs, h => by
    simp only [List.contains_cons, Bool.or_eq_false_iff] at h
    simp only [List.zip_cons_cons, List.lookup, h.1]
    exact look_none ns vs h.2
/-- an object's entry -/
theorem Good.ob {K : PySem.W.Frag} {S : Sto} {μ : Mu} {H : Hp} (g : Good K S μ H) {i : Nat} {x : Str} {ns : List Str} {fs : List D} {v : V} (h : S[i]? = some (some (.cl x ns :: fs))) (r : Rep K S μ H (.ref i) v) :
    ∃ a dx vs, v = .ref a ∧ μ.ps[i]? = some a ∧ H a = some (.ins (He.ga K x) dx (ns.zip vs)) ∧ ns.length = fs.length ∧ Reps K S μ H fs vs := by
  obtain ⟨a, e1, m⟩ := r
  obtain ⟨b, o, m', hb, q⟩ := g.at_ i _ h
  rw [m] at m'; cases m'
  obtain ⟨dx, vs, rfl, hl, rr⟩ := q
  exact ⟨a, dx, vs, e1, m, hb, hl, rr⟩
theorem i_fld {x f : Str} (hc : Cls X.K (He.ga X.K x)) (hn : NoAttr X.K (He.ga X.K x) f) (ha : PE X a (tE X.K F ia)) (hb : attributeBase a f X.env (eval a X.env) = eval a X.env := by rfl) : PE X (.Attribute a f pos) (tE X.K F (.fld x ia f)) :=
  PE.weak (pe_fld ha hb) fun σ H Q ⟨ρ, S, μ, d, S', g, r, q, k⟩ => by
    simp only [ev] at q
    split at q
    · rename_i i S1 ea
      split at q
      · rename_i xs hS
        split at q
        · rename_i d' hd
          cases q
          refine ⟨ρ, S, μ, .ref i, _, g, r, ea, fun v μ1 H1 g1 e1 rv => ?_⟩
          unfold fldD at hd
          split at hd
          · rename_i y ns fs
            split at hd
            · rename_i hy
              subst hy
              obtain ⟨b, dx, vs, rfl, m, hb', hl, rr⟩ := g1.ob hS rv
              obtain ⟨w, hw, rw'⟩ := zip_look ns fs vs _ rr hd
              exact ⟨b, _, dx, _, w, rfl, hb', hc, hn, hw, k _ _ _ g1 e1 rw'⟩
            · cases hd
          · cases hd
        · cases q
      · cases q
    · cases q
/-- x.bit_length() -/
theorem i_bits {apos : Pos} (ha : PE X a (tE X.K F ia)) (hbase : attributeBase a "bit_length" X.env (eval a X.env) = eval a X.env := by rfl) (hline : (apos.endLine == pos.line) = true := by rfl) :
    PE X (.Call (.Attribute a "bit_length" apos) [] [] pos) (tE X.K F (.bits ia)) :=
  PE.weak (L2.pe_bits ha hbase hline) fun σ H Q ⟨ρ, S, μ, d, S', g, r, q, k⟩ => by
    simp only [ev] at q
    split at q
    · rename_i i S1 ea
      cases q
      exact ⟨ρ, S, μ, .int i, _, g, r, ea, fun v μ1 H1 g1 e1 rv => ⟨i, rv, k _ _ _ g1 e1 rfl⟩⟩
    · cases q
theorem stp_map {α β : Type} {xs : List α} {ys : List β} (hl : xs.length = ys.length) (k : Nat) {R : List α → List β → Prop} (h : ∀ is : List Nat, R (is.filterMap (xs[·]?)) (is.filterMap (ys[·]?))) : R (stpD k xs) (stpD k ys) := by
  unfold stpD
  rw [hl]
  exact h _
theorem Reps.pick {K : PySem.W.Frag} {S : Sto} {μ : Mu} {H : Hp} {ds : List D} {vs : List V} (r : Reps K S μ H ds vs) : ∀ is : List Nat, Reps K S μ H (is.filterMap (ds[·]?)) (is.filterMap (vs[·]?))
  | [] => rfl
  | i :: is => by
    have ih := Reps.pick r is
    have hl := r.length
    cases e : ds[i]? with
    | none =>
      have e2 : vs[i]? = none := by
        rw [List.getElem?_eq_none_iff] at e ⊢
        omega
      rw [List.filterMap_cons, e, List.filterMap_cons, e2]
      exact ih
    | some d =>
      obtain ⟨v, e2, rv⟩ := r.get e
      rw [List.filterMap_cons, e, List.filterMap_cons, e2]
      exact ⟨v, _, rfl, rv, ih⟩
theorem vals_pick {vs : List V} {us : List Value} (r : Vals vs us) : ∀ is : List Nat, Vals (is.filterMap (vs[·]?)) (is.filterMap (us[·]?))
  | [] => .nil
  | i :: is => by
    have ih := vals_pick r is
    have hl := r.length
    by_cases hi : i < vs.length
    · have e : vs[i]? = some vs[i] := List.getElem?_eq_getElem hi
      obtain ⟨u, e2, ru⟩ := r.get (i := i) e
      rw [List.filterMap_cons, e, List.filterMap_cons, e2]
      exact .cons ru ih
    · have e : vs[i]? = none := List.getElem?_eq_none (by omega)
      have e2 : us[i]? = none := List.getElem?_eq_none (by omega)
      rw [List.filterMap_cons, e, List.filterMap_cons, e2]
      exact ih
theorem pick_eq (its : List Value) (k : Nat) : PySem.slicePick its.toArray none none (some (k : Int)) = (stpD k its).toArray := by
  unfold PySem.slicePick stpD
  rw [List.size_toArray]
  simp
def tStp (K : PySem.W.Frag) (n : Nat) (te : TE) : TE := fun σ H Q => te σ H fun x H1 => ∃ a xs, x = .ref a ∧ SqL K H1 a xs ∧ ∀ p, H1 p = none → Q (.ref p) (upd H1 p (.lst (stpD n xs)))
theorem stp_len {α : Type} (k : Nat) (xs : List α) (us : List Value) (h : xs.length = us.length) : (stpD k xs).length ≤ us.length := by
  have e : (stpD k us).length ≤ us.length := by
    have z := PySem.slicePick_size_le us.toArray none none (some (k : Int))
    rw [pick_eq, List.size_toArray, List.size_toArray] at z
    exact z
  have e2 : (stpD k xs).length = (stpD k us).length := by
    refine stp_map (R := fun a b => a.length = b.length) h k fun is => ?_
    induction is with
    | nil => rfl
    | cons i is ih =>
      by_cases hi : i < xs.length
      · rw [List.filterMap_cons, List.getElem?_eq_getElem hi, List.filterMap_cons, List.getElem?_eq_getElem (h ▸ hi), List.length_cons, List.length_cons, ih]
      · rw [List.filterMap_cons, List.getElem?_eq_none (by omega), List.filterMap_cons, List.getElem?_eq_none (by omega)]
        exact ih
  omega
theorem pe_stp {X : Cx} {e : Expr} {te : TE} {n : Nat} {k : Nat} {p1 p3 pos : Pos} (hn : 0 < n) (he : PE X e te) : PE X (.Subscript e (.Slice none none (some (.Constant (.int (n : Int)) k p1)) p3) pos) (tStp X.K n te) := by
  refine ⟨fun pins s σ H Q I h => ?_⟩
  refine Subscript_ (thn (he.run pins s σ H _ I h) fun v s1 ⟨x, H1, I1, r1, q1⟩ => ?_)
  obtain ⟨a, xs, ex, hx, q⟩ := q1
  subst ex
  cases r1
  have hst : PO X (some (.Constant (.int (n : Int)) k p1)) (tPart (tC (.int (n : Int)))) := po_some pe_int
  refine wpAny_Slice (thn (po_none.run pins s1 σ H1 (fun o H2 => o = none ∧ H2 = H1) I1 ⟨rfl, rfl⟩) fun vl s2 ⟨l, H2, I2, pl, el, e2⟩ => ?_)
  subst el e2
  refine thn (po_none.run pins s2 σ H2 (fun o H3 => o = none ∧ H3 = H2) I2 ⟨rfl, rfl⟩) fun vu s3 ⟨u, H3, I3, pu, eu, e3⟩ => ?_
  subst eu e3
  refine thn (hst.run pins s3 σ H3 (fun o H4 => o = some (n : Int) ∧ H4 = H3) I3 ⟨n, rfl, rfl, rfl⟩) fun vs s4 ⟨o, H4, I4, ps, eo, e4⟩ => ?_
  subst eo e4
  have I5 : Inv X pins σ H4 { s4 with heap := s4.heap.push { cls := .type "slice", data := .fields #[vl, vu, vs] } } := I4.kept (t' := s4.toks) fun b ob q => Heap.get?_push_of_some _ q
  obtain ⟨its, r, ht, hz⟩ := I5.list hx
  have hlen := r.length
  show wpAny (model X.prog X.w) X.A (subscriptTail e (.Slice none none (some (.Constant (.int (n : Int)) k p1)) p3) (.ref a) (.ref s4.heap.objs.size)) (EP X pins σ Q) X.xe { s4 with heap := s4.heap.push { cls := .type "slice", data := .fields #[vl, vu, vs] } }
  refine tail_any (ops := [.ref a, .ref s4.heap.objs.size]) ht.isList.typeIs (PySem.slot_list_getitem.lookup) ?_ (by with_unfolding_all rfl)
  refine wpAny_getItem_list_slice ht.isList (Heap.IsSliceOf.new _ vl vu vs) pl pu ps (by intro z; injection z with z; omega) ?_ (by rw [List.size_toArray]; omega)
  rw [pick_eq]
  refine ⟨.ref _, _, I5.laid (t' := s4.toks) (o := .lst (stpD n xs)) (fun b ob q => Heap.get?_push_of_some _ q) (Nat.le_refl _) ?_, rfl, q _ (I5.hok.fresh (Nat.le_refl _))⟩
  have hz2 := stp_len n xs its hlen
  exact ⟨by omega, _, 0, stp_map (R := fun a b => Vals a b) hlen n fun is => vals_pick r is, Heap.get?_push_size _ rfl⟩
theorem i_stp {n : Nat} {k : Nat} {p1 p3 : Pos} (ha : PE X a (tE X.K F ia)) : PE X (.Subscript a (.Slice none none (some (.Constant (.int (n : Int)) k p1)) p3) pos) (tE X.K F (.stp ia n)) := by
  by_cases hn : 0 < n
  · exact PE.weak (pe_stp hn ha) fun σ H Q ⟨ρ, S, μ, d, S', g, r, q, k⟩ => by
      simp only [ev] at q
      split at q
      · cases q
      · rename_i x S1 ea
        split at q
        · rename_i xs sx
          split at q
          · cases q
            exact ⟨ρ, S, μ, x, S', g, r, ea, fun v μ1 H1 g1 e1 rv => by
              obtain ⟨a, vs, rfl, qa, ra⟩ := see_ok g1 rv sx
              refine ⟨a, vs, rfl, qa.l, fun p hp => ?_⟩
              have r2 : Reps X.K S' μ1 H1 (stpD n xs) (stpD n vs) := stp_map (R := fun a b => Reps X.K S' μ1 H1 a b) ra.length n fun is => Reps.pick ra is
              exact k _ _ _ (good_new g1 hp) (e1.trans (evo_new g1 hp)) (rep_lst_new g1 hp r2)⟩
          · cases q
        · cases q
  · refine ⟨fun pins s σ H Q I ⟨ρ, S, μ, d, S', g, r, q, k⟩ => ?_⟩
    simp only [ev, decide_eq_false hn, Bool.false_and, Bool.false_eq_true, if_false] at q
    split at q
    · cases q
    · split at q <;> cases q
theorem rep_dct_new {K : PySem.W.Frag} {S : Sto} {μ : Mu} {H : Hp} {p : Addr} {kvs : List (Key × V)} : Rep K S μ (upd H p (.dK kvs)) .dct (.ref p) := ⟨p, kvs, rfl, upd_same⟩
theorem i_dct0 : PE X (.Dict [] [] pos) (tE X.K F (.dct [])) :=
  PE.weak pe_dnewK fun σ H Q ⟨ρ, S, μ, d, S', g, r, q, k⟩ => by
    simp only [ev] at q
    cases q
    exact fun p hp => k _ _ _ (good_new g hp) (evo_new g hp) rep_dct_new
theorem i_dct1 {x y : Str} {j1 j2 : Nat} {p1 p2 : Pos} : PE X (.Dict [some (.Constant (.str x) j1 p1)] [.Constant (.str y) j2 p2] pos) (tE X.K F (.dct [(x, y)])) :=
  PE.weak (pe_disp (pps_cons pe_str pe_str pps_nil) rfl rfl (by simp) (Nat.le_of_ble_eq_true rfl)) fun σ H Q ⟨ρ, S, μ, d, S', g, r, q, k⟩ => by
    simp only [ev] at q
    cases q
    refine fun p hp => ⟨upd_same, [(.inr x, .str y)], rfl, Nat.le_of_ble_eq_true rfl, ?_⟩
    rw [upd_upd]
    exact k _ _ _ (good_new g hp) (evo_new g hp) rep_dct_new
def rIxI (K : PySem.W.Frag) : R2 := fun v w H Q => ∃ S μ x i z, Good K S μ H ∧ Seen K S μ H x v ∧ Rep K S μ H i w ∧ ixD x i = some z ∧ Cont K S μ H z Q
theorem ix_I : IxR X (rIxI X.K) := by
  intro value slice pins s σ H v w u1 u2 Q I r1 r2 h hs
  obtain ⟨S, μ, x, i, z, g, hx, hi, e, k⟩ := h
  exact ixD_run e I g hx hi r1 r2 k hs
theorem i_ix (ha : PE X a (tE X.K F ia)) (hb : PE X b (tE X.K F ib)) (hs : PlainIx b := by exact fun _ _ => rfl) : PE X (.Subscript a b pos) (tE X.K F (.ix ia ib)) :=
  PE.weak (pe_ix ix_I ha hb hs) fun σ H Q ⟨ρ, S, μ, d, S', g, r, q, k⟩ => by
    simp only [ev] at q
    split at q
    · cases q
    · rename_i x S1 ea
      split at q
      · cases q
      · rename_i y S2 eb
        split at q
        · cases q
        · rename_i x' sx
          split at q
          · rename_i z ez
            cases q
            exact two g r ea eb fun v w μ2 H2 g2 e2 rx ry => ⟨_, μ2, x', y, _, g2, see_ok g2 rx sx, ry, ez, fun v' H' g3 e3 rz => k v' μ2 H' g3 (e2.trans e3) rz⟩
          · cases q
abbrev POI (X : Cx) (F : CF) (lo : Option Expr) (il : E) : Prop := (lo = none ∧ il = .c .non) ∨ (∃ l, lo = some l ∧ PE X l (tE X.K F il))
def tO (K : PySem.W.Frag) (F : CF) (il : E) : TO := fun σ H Q => ∃ (ρ : Env) (S : Sto) (μ : Mu) (d : D) (o : Option Int) (S' : Sto), Good K S μ H ∧ RelS K S μ H ρ σ ∧ ev F il ρ S = some (d, S') ∧ part? d = some o ∧ ((isNonE il || isIntD d) = true) ∧ ∀ μ' H', Good K S' μ' H' → Evo S μ H S' μ' H' → Q o H'
theorem PO.weak {X : Cx} {e : Option Expr} {t t' : TO} (h : PO X e t) (k : ∀ σ H Q, t' σ H Q → t σ H Q) : PO X e t' := ⟨fun pins s σ H Q I q => h.run pins s σ H Q I (k σ H Q q)⟩
theorem o_none : PO X none (tO X.K F (.c .non)) := PO.weak po_none fun σ H Q ⟨ρ, S, μ, d, o, S', g, r, q, p, _, k⟩ => by
  simp only [ev] at q
  cases q
  cases p
  exact k μ H g (Evo.refl _ _ _)
theorem o_some (ha : PE X a (tE X.K F ia)) (hn : isNonE ia = false := by rfl) : PO X (some a) (tO X.K F ia) := PO.weak (po_some ha) fun σ H Q ⟨ρ, S, μ, d, o, S', g, r, q, p, c, k⟩ => by
  rw [hn, Bool.false_or] at c
  cases d with
  | int i =>
    cases p
    exact ⟨ρ, S, μ, _, _, g, r, q, fun v μ1 H1 g1 e1 rv => ⟨i, rv, k _ _ g1 e1⟩⟩
  | _ => cases c
theorem i_sl {lo hi : Option Expr} {il ih : E} {p2 : Pos} (ha : PE X a (tE X.K F ia)) (hl : PO X lo (tO X.K F il)) (hh : PO X hi (tO X.K F ih)) : PE X (.Subscript a (.Slice lo hi none p2) pos) (tE X.K F (.sl ia il ih)) :=
  PE.weak (pe_slice sl_I ha hl hh) fun σ H Q ⟨ρ, S, μ, d, S', g, r, q, k⟩ => by
    simp only [ev] at q
    split at q
    · cases q
    · rename_i x S1 ea
      split at q
      · cases q
      · rename_i l S2 el
        split at q
        · cases q
        · rename_i h S3 eh
          split at q
          · rename_i x' l' h' sx pl ph
            split at q
            · rename_i hk
              split at q
              · rename_i z ez
                cases q
                rw [Bool.and_eq_true] at hk
                obtain ⟨k1, k2⟩ := hk
                exact ⟨ρ, S, μ, x, S1, g, r, ea, fun v μ1 H1 g1 e1 rv => ⟨ρ, S1, μ1, l, l', S2, g1, r.mono g e1.w, el, pl, k1, fun μ2 H2 g2 e2 =>
                  ⟨ρ, S2, μ2, h, h', _, g2, r.mono g (e1.trans e2).w, eh, ph, k2, fun μ3 H3 g3 e3 => ⟨_, μ3, x', _, g3, see_ok g3 (rv.mono g1 (e2.trans e3).w) sx, ez, fun v' H' g4 e4 rz => k v' μ3 H' g4 ((e1.trans (e2.trans e3)).trans e4) rz⟩⟩⟩⟩
              · cases q
            · cases q
          · cases q
end
end Iv

set_option Elab.async false
set_option linter.all false
set_option maxRecDepth 100000
set_option maxHeartbeats 1000000
namespace Iv
open PySem PySem.Spec PyProof.Rows L2

/-- a def's promise, where no repr is under way -/
abbrev SpI := List V → Hp → VK → Prop
structure FnI (P : Program) (w : World) (K : PySem.W.Frag) (mg : Str → Option Value) (base : Heap) (k : Nat) (f : Addr) (fd : FuncData) (ps : List Str) (sp : SpI) : Prop where
  len : ∀ vs H Q, sp vs H Q → vs.length = ps.length
  run : ∀ (A : Around) (outer : List PySem.Env) (s : Shared) (H : Hp) (args : Args) (us : List Value) (vs : List V) (Q : VK), Room k A → A.guards = some [] → Env0 P w K mg base A outer s H → BindsTo s fd args (ps.zip us) → Vals vs us → sp vs H Q →
    codeAny (model P w) A (.call (.ref f) args) (CR L2.CX0 outer P w H s Q L2.E0) s
theorem FnI.mono {P : Program} {w : World} {K : PySem.W.Frag} {mg : Str → Option Value} {base : Heap} {j k : Nat} {f : Addr} {fd : FuncData} {ps : List Str} {sp : SpI} (F : FnI P w K mg base j f fd ps sp) (h : j ≤ k) : FnI P w K mg base k f fd ps sp :=
  ⟨F.len, fun A outer s H args us vs Q hr => F.run A outer s H args us vs Q (hr.mono h)⟩
/-- what the evaluation of a def promises -/
def spI (K : PySem.W.Frag) (F : CF) (ar fi : Nat) : SpI := fun vs H Q => ∃ (S : Sto) (μ : Mu) (ds : List D) (d : D) (S' : Sto), Good K S μ H ∧ Reps K S μ H ds vs ∧ ds.length = ar ∧ F fi ds S = some (d, S') ∧ ContS K S μ H S' d Q

section
variable {X : Cx} {F : CF} {a b c e : Expr} {es : List Expr} {ia ib ic ie : E} {ies : Es} {pos : Pos}
/-- a def that may be called here -/
structure CallOk (X : Cx) (F : CF) (fi ar : Nat) (x : Str) : Prop where
  ar_ : ∀ ds S r, F fi ds S = some r → ds.length = ar
  ex : ∃ (f : Addr) (fd : FuncData) (ps : List Str) (k : Nat), X.mg x = some (.ref f) ∧ PySem.W.keepIn X.K (.ref f) = true ∧ Binds X.K fd ps [] ∧ Room k X.A ∧ FnI X.prog X.w X.K X.mg X.base k f fd ps (spI X.K F ar fi)
/-- the callee runs -/
theorem run_I {pins : List (Addr × Obj)} {σ : L2.St} {H : Hp} {s : Shared} {Q : VK} {args : Args} {us : List Value} {vs : List V} {k : Nat} {f : Addr} {fd : FuncData} {ps : List Str} {sp : SpI} (G : FnI X.prog X.w X.K X.mg X.base k f fd ps sp) (hr : Room k X.A) (hgd : X.A.guards = some [])
    (I : Inv X pins σ H s) (hb : BindsTo s fd args (ps.zip us)) (r : Vals vs us) (h : sp vs H Q) : codeAny (model X.prog X.w) X.A (.call (.ref f) args) (fun r s' => match r with | .ok (.ret v) => EP X pins σ Q v s' | .ok _ => False | .error e => X.xe e s') s :=
  codeAny_mono (G.run X.A X.stack s H args us vs Q hr hgd I.env0 hb r h) fun r s' hq => by
    cases r with
    | error e => exact False.elim hq
    | ok fl =>
      cases fl with
      | ret u => exact I.after hq
      | next => exact False.elim hq
      | brk => exact False.elim hq
      | cont => exact False.elim hq
theorem tA_run {K : PySem.W.Frag} {σ : L2.St} {H : Hp} {R : List V → Hp → Prop} {ρ : Env} {S S1 : Sto} {μ : Mu} {xs : List D} (g : Good K S μ H) (r : RelS K S μ H ρ σ) (q : evs F ies ρ S = some (xs, S1))
    (k : ∀ vs μ1 H1, Good K S1 μ1 H1 → Evo S μ H S1 μ1 H1 → Reps K S1 μ1 H1 xs vs → R vs H1) : tA K F ies σ H R := ⟨ρ, S, μ, xs, S1, g, r, q, k⟩
/-- f(e, ..) -/
theorem i_call {fi ar : Nat} {x : Str} {p : Pos} (ok : Cok X) (hg : Gl X x) (C : CallOk X F fi ar x) (ha : PA X (e :: es) (tA X.K F ies)) (hdb : (x == ("__debug__" : Str)) = false := by decide)
    (he : starEach (e :: es) X.env = (false, eval e X.env) :: starEach es X.env := by rfl) (hpl : (backTo pos (starEach es X.env)).any (·.1) = false := by rfl) : PE X (.Call (.Name x p) (e :: es) [] pos) (tE X.K F (.call fi ies)) := by
  obtain ⟨f, fd, ps, k, hm, hk, hb, hr, G⟩ := C.ex
  refine ⟨fun pins s σ H Q I ⟨ρ, S, μ, d, S', g, r, q, kk⟩ => ?_⟩
  simp only [ev] at q
  split at q
  · rename_i xs S1 ea
    refine wpAny_Call_Name_kw (ld_glob I hg hm ?_ hdb)
    refine PySem.W.callWith_K (h₀ := X.base) I.ok.mod.kin hk (thn (ha.run pos pins s σ H (fun vs H1 => spI X.K F ar fi vs H1 Q) I (tA_run g r ea fun vs μ1 H1 g1 e1 rv => ?_)) ?_) he hpl
    · exact ⟨S1, μ1, xs, d, S', g1, rv, C.ar_ _ _ _ q, q, fun v μ2 H2 g2 e2 rd => kk v μ2 H2 g2 (e1.trans e2) rd⟩
    · rintro us s1 ⟨vs, H1, I1, rr, hq⟩
      have hl : (us ++ []).length = ps.length := by rw [List.append_nil, ← rr.length]; exact G.len _ _ _ hq
      have hbb := hb s1 us I1.kIn hl
      rw [List.append_nil] at hbb
      exact ⟨I1.kIn, wpAny_call (run_I G hr ok.gd I1 hbb rr hq)⟩
  · cases q
/-- f() -/
theorem i_call0 {fi ar : Nat} {x : Str} {p : Pos} (ok : Cok X) (hg : Gl X x) (C : CallOk X F fi ar x) (hdb : (x == ("__debug__" : Str)) = false := by decide) : PE X (.Call (.Name x p) [] [] pos) (tE X.K F (.call fi .nil)) := by
  obtain ⟨f, fd, ps, k, hm, hk, hb, hr, G⟩ := C.ex
  refine ⟨fun pins s σ H Q I ⟨ρ, S, μ, d, S', g, r, q, kk⟩ => ?_⟩
  simp only [ev, evs] at q
  have hq : spI X.K F ar fi [] H Q := ⟨S, μ, [], d, S', g, rfl, C.ar_ _ _ _ q, q, kk⟩
  have hl : ([] ++ [] : List Value).length = ps.length := G.len _ _ _ hq
  have hbb := hb s [] I.kIn hl
  rw [List.append_nil] at hbb
  exact wpAny_Call_Name_kw (ld_glob I hg hm (PySem.W.callWith_K0 I.kIn hk (wpAny_call (run_I G hr ok.gd I hbb .nil hq))) hdb)
/-- a method that may be called here -/
structure MethOk (X : Cx) (F : CF) (fi ar : Nat) (x m : Str) : Prop where
  ar_ : ∀ ds S r, F fi ds S = some r → ds.length = ar
  cls : Cls X.K (He.ga X.K x)
  ex : ∃ (f : Addr) (fd : FuncData) (ps : List Str) (k : Nat), Meth X.K (He.ga X.K x) m f ∧ Binds X.K fd ps [] ∧ Room k X.A ∧ FnI X.prog X.w X.K X.mg X.base k f fd ps (spI X.K F ar fi)
theorem mcall_read {x m : Str} {fi ar : Nat} {io : E} (M : MethOk X F fi ar x m) {σ : L2.St} {H : Hp} {Q : VK} (h : tE X.K F (.mcall x m fi io ies) σ H Q) : tE X.K F io σ H fun v H1 => ∃ a dx fs, v = .ref a ∧ H1 a = some (.ins (He.ga X.K x) dx fs) ∧ fs.lookup m = none ∧ tA X.K F ies σ H1 fun vs H2 => spI X.K F ar fi (v :: vs) H2 Q := by
  obtain ⟨ρ, S, μ, d, S', g, r, q, k⟩ := h
  simp only [ev] at q
  split at q
  · rename_i i S1 eo
    split at q
    · rename_i y ns fs hS
      split at q
      · rename_i hy
        rw [Bool.and_eq_true, decide_eq_true_eq, Bool.not_eq_true'] at hy
        obtain ⟨rfl, hm⟩ := hy
        split at q
        · cases q
        · rename_i xs S2 ea
          refine ⟨ρ, S, μ, .ref i, S1, g, r, eo, fun v μ1 H1 g1 e1 rv => ?_⟩
          obtain ⟨a, dx, vs, rfl, ma, ha, hl, rr⟩ := g1.ob hS rv
          refine ⟨a, dx, _, rfl, ha, look_none ns vs hm, ρ, S1, μ1, xs, S2, g1, r.mono g e1.w, ea, fun ws μ2 H2 g2 e2 rws => ?_⟩
          have rs : Reps X.K S2 μ2 H2 (.ref i :: xs) (.ref a :: ws) := ⟨_, _, rfl, rv.mono g1 e2.w, rws⟩
          exact ⟨S2, μ2, .ref i :: xs, d, S', g2, rs, M.ar_ _ _ _ q, q, fun v' μ3 H3 g3 e3 rd => k v' μ3 H3 g3 ((e1.trans e2).trans e3) rd⟩
      · cases q
    · cases q
  · cases q
theorem i_mcall {x m : Str} {fi ar : Nat} {o : Expr} {io : E} {apos : Pos} {pl : Sem Bool} (ok : Cok X) (M : MethOk X F fi ar x m) (ho : PE X o (tE X.K F io)) (ha : PA X (e :: es) (tA X.K F ies)) (hst : starEach (e :: es) X.env = (false, eval e X.env) :: starEach es X.env := by rfl) (hpl : (backTo pos (starEach es X.env)).any (·.1) = false := by rfl)
    (ht : eval (.Call (.Attribute o m apos) (e :: es) [] pos) X.env = (do
      let ov ← eval o X.env
      standAt apos.atName
      let (f, first) ← holding [ov] (getMethod ov m pl)
      callWith pos f first (backTo pos (starEach (e :: es) X.env)) (backToKw pos (keywordEach [] X.env))) := by rfl) : PE X (.Call (.Attribute o m apos) (e :: es) [] pos) (tE X.K F (.mcall x m fi io ies)) := by
  obtain ⟨f, fd, ps, k, hm, hb, hr, G⟩ := M.ex
  refine ⟨fun pins s σ H Q I h => ?_⟩
  refine PySem.W.methodCall_KW (pl := pl) (thn (ho.run pins s σ H _ I (mcall_read M h)) fun u s1 ⟨v, H1, I1, rx, a, dx, fs, ex, ea, l, q⟩ => ?_) ht
  subst ex
  obtain rfl : u = Value.ref a := rx
  refine getmeth_ok I1 ea M.cls hm l ?_
  refine PySem.W.callWith_K (first := [.ref a]) (h₀ := X.base) I.ok.mod.kin hm.kp (thn (ha.run pos pins s1 σ H1 _ I1 q) fun us s2 ⟨vs, H2, I2, r, q2⟩ => ⟨I2.kIn, ?_⟩) hst hpl
  have r2 : Vals (V.ref a :: vs) (Value.ref a :: us) := .cons rfl r
  have hl : (Value.ref a :: us ++ []).length = ps.length := by rw [List.append_nil, ← r2.length]; exact G.len _ _ _ q2
  have hbb := hb s2 (Value.ref a :: us) I2.kIn hl
  rw [List.append_nil] at hbb
  exact wpAny_call (run_I G hr ok.gd I2 hbb r2 q2)
theorem i_mcall0 {x m : Str} {fi ar : Nat} {o : Expr} {io : E} {apos : Pos} {pl : Sem Bool} (ok : Cok X) (M : MethOk X F fi ar x m) (ho : PE X o (tE X.K F io))
    (ht : eval (.Call (.Attribute o m apos) [] [] pos) X.env = (do
      let ov ← eval o X.env
      standAt apos.atName
      let (f, first) ← holding [ov] (getMethod ov m pl)
      callWith pos f first (backTo pos (starEach [] X.env)) (backToKw pos (keywordEach [] X.env))) := by rfl) : PE X (.Call (.Attribute o m apos) [] [] pos) (tE X.K F (.mcall x m fi io .nil)) := by
  obtain ⟨f, fd, ps, k, hm, hb, hr, G⟩ := M.ex
  refine ⟨fun pins s σ H Q I h => ?_⟩
  refine PySem.W.methodCall_KW (pl := pl) (thn (ho.run pins s σ H _ I (mcall_read M h)) fun u s1 ⟨v, H1, I1, rx, a, dx, fs, ex, ea, l, ρ, S, μ, xs, S1, g, rr, q, kk⟩ => ?_) ht
  subst ex
  obtain rfl : u = Value.ref a := rx
  refine getmeth_ok I1 ea M.cls hm l ?_
  simp only [evs] at q
  cases q
  have q2 := kk [] μ H1 g (Evo.refl _ _ _) rfl
  have r2 : Vals [V.ref a] [Value.ref a] := .cons rfl .nil
  have hl : ([Value.ref a] ++ []).length = ps.length := by rw [List.append_nil, ← r2.length]; exact G.len _ _ _ q2
  have hbb := hb s1 [Value.ref a] I1.kIn hl
  rw [List.append_nil] at hbb
  exact PySem.W.callWith_K0 (first := [.ref a]) I1.kIn hm.kp (wpAny_call (run_I G hr ok.gd I1 hbb r2 q2))
/-- a class that may be made here -/
structure MakeOk (X : Cx) (F : CF) (fi ar : Nat) (x : Str) : Prop where
  ar_ : ∀ ds S r, F fi ds S = some r → ds.length = ar
  at_ : X.mg x = some (.ref (He.ga X.K x))
  ex : ∀ ds S r, F fi ds S = some r → ∃ (f : Addr) (fd : FuncData) (ps : List Str) (k : Nat), Mk X.K (He.ga X.K x) f ∧ Binds X.K fd ps [] ∧ Room (k + 1) X.A ∧ FnI X.prog X.w X.K X.mg X.base k f fd ps (spI X.K F ar fi)
theorem i_mko {x : Str} {fi ar : Nat} {p : Pos} (ok : Cok X) (hg : Gl X x) (M : MakeOk X F fi ar x) (ha : PA X (e :: es) (tA X.K F ies)) (hdb : (x == ("__debug__" : Str)) = false := by decide) (he : starEach (e :: es) X.env = (false, eval e X.env) :: starEach es X.env := by rfl) (hpl : (backTo pos (starEach es X.env)).any (·.1) = false := by rfl) :
    PE X (.Call (.Name x p) (e :: es) [] pos) (tE X.K F (.mko x fi ies)) := by
  refine ⟨fun pins s σ H Q I ⟨ρ, S, μ, d, S', g, r, q, kk⟩ => ?_⟩
  simp only [ev] at q
  split at q
  · cases q
  · rename_i xs S1 ea
    split at q
    · rename_i S2 eb
      cases q
      obtain ⟨f, fd, ps, k, hM, hb, hr, G⟩ := M.ex _ _ _ eb
      refine wpAny_Call_Name_kw (ld_glob I hg M.at_ ?_ hdb)
      refine PySem.W.callWith_K (h₀ := X.base) I.ok.mod.kin hM.kp (thn (ha.run pos pins s σ H (fun vs H1 => ∀ b dx, H1 b = none → H1 dx = none → dx ≠ b → spI X.K F ar fi (.ref b :: vs) (upd (upd H1 dx (.own b)) b (.ins (He.ga X.K x) dx [])) fun v H2 => v = .non ∧ Q (.ref b) H2) I ⟨ρ, S, μ, xs, S1, g, r, ea, fun vs μ1 H1 g1 e1 rv => ?_⟩) ?_) he hpl
      · intro b dx hb0 hd0 hne
        have gA := good_new (o := .own b) g1 hd0
        have eA := evo_new (o := .own b) g1 hd0
        have hb1 : (upd H1 dx (.own b)) b = none := by rw [upd_ne (Ne.symm hne)]; exact hb0
        have oB : Obs X.K S1 μ1 (upd H1 dx (.own b)) [.cl x []] (.ins (He.ga X.K x) dx []) := ⟨dx, [], rfl, rfl, rfl⟩
        have gB := good_mk2 gA hb1 oB
        have eB := evo_mk (xs := [.cl x []]) (o := .ins (He.ga X.K x) dx []) gA hb1
        have e2 := (e1.trans eA).trans eB
        have rs : Reps X.K (S1 ++ [some [.cl x []]]) (μ1.more b) (upd (upd H1 dx (.own b)) b (.ins (He.ga X.K x) dx [])) (.ref S1.length :: xs) (.ref b :: vs) := ⟨_, _, rfl, ⟨b, rfl, get_last g1.len⟩, (rv.mono g1 eA.w).mono gA eB.w⟩
        exact ⟨_, _, _, _, _, gB, rs, M.ar_ _ _ _ eb, eb, fun v μ3 H3 g3 e3 rd => ⟨rd, kk _ _ _ g3 (e2.trans e3) ⟨b, rfl, e3.w.mu _ _ (get_last g1.len)⟩⟩⟩
      · rintro us s1 ⟨vs, H1, I1, rr, hq⟩
        refine ⟨I1.kIn, ?_⟩
        have hq2 := hq (s1.heap.objs.size + 1) s1.heap.objs.size (I1.hok.fresh (Nat.le_succ _)) (I1.hok.fresh (Nat.le_refl _)) (Nat.ne_of_lt (Nat.lt_succ_self _))
        have I2 := Inv.made (C := He.ga X.K x) I1
        have r2 : Vals (V.ref (s1.heap.objs.size + 1) :: vs) (Value.ref (s1.heap.objs.size + 1) :: us) := .cons rfl rr
        have hl : (Value.ref (s1.heap.objs.size + 1) :: us ++ []).length = ps.length := by rw [List.append_nil, ← r2.length]; exact G.len _ _ _ hq2
        have hbb := hb _ (Value.ref (s1.heap.objs.size + 1) :: us) I2.kIn hl
        rw [List.append_nil] at hbb
        refine wpAny_call (make_map (f := f) I1.kIn hM.makes hM.init (beq_iff_eq.mp hM.fn) (codeAny_mono (G.run _ X.stack _ _ ⟨Value.ref (s1.heap.objs.size + 1) :: us, []⟩ (Value.ref (s1.heap.objs.size + 1) :: us) _ _ (hr.make (He.ga X.K x) us []) ok.gd (I2.env0.make (He.ga X.K x) us []) hbb r2 hq2) fun r s' hq' => ?_))
        cases r with
        | error e => exact False.elim hq'
        | ok fl =>
          cases fl with
          | ret u =>
            obtain ⟨v, H', I3, rv, ev, q3⟩ := I2.after hq'
            subst ev
            exact ⟨rv, ⟨V.ref (s1.heap.objs.size + 1), H', I3, rfl, q3⟩⟩
          | next => exact False.elim hq'
          | brk => exact False.elim hq'
          | cont => exact False.elim hq'
    · cases q
theorem evs_len : ∀ {es : Es} {n : Nat} {ρ : Env} {S S1 : Sto} {xs : List D}, plainEs es = some n → evs F es ρ S = some (xs, S1) → xs.length = n
  | .nil, n, ρ, S, S1, xs, h, q => by
    simp only [evs] at q
    cases q
    cases h
    rfl
  | .cons e es, n, ρ, S, S1, xs, h, q => by
    simp only [plainEs] at h
    obtain ⟨m, hm, rfl⟩ := Option.map_eq_some_iff.mp h
    simp only [evs] at q
    split at q
    · cases q
    · split at q
      · cases q
      · rename_i ys S2 eb
        cases q
        rw [List.length_cons, evs_len hm eb]
  | .star _ _, _, _, _, _, _, h, _ => by cases h
theorem reps_prm {K : PySem.W.Frag} {S : Sto} {μ : Mu} {H : Hp} {xs : List D} {vs : List V} (h : Reps K S μ H xs vs) : ∀ pm : List Nat, Reps K S μ H (prm pm xs) (prm pm vs)
  | [] => rfl
  | i :: pm => by
    have ih := reps_prm h pm
    unfold prm at ih ⊢
    rw [List.filterMap_cons, List.filterMap_cons]
    cases e : xs[i]? with
    | none =>
      have e2 : vs[i]? = none := List.getElem?_eq_none (by rw [← h.length]; exact List.getElem?_eq_none_iff.mp e)
      rw [e2]
      exact ih
    | some d =>
      obtain ⟨v, hv, r⟩ := h.get e
      rw [hv]
      exact ⟨v, _, rfl, r, ih⟩
theorem vals_prm {vs : List V} {us : List Value} (h : Vals vs us) : ∀ pm : List Nat, Vals (prm pm vs) (prm pm us)
  | [] => .nil
  | i :: pm => by
    have ih := vals_prm h pm
    unfold prm at ih ⊢
    rw [List.filterMap_cons, List.filterMap_cons]
    cases e : vs[i]? with
    | none =>
      rw [h.none_of e]
      exact ih
    | some d =>
      obtain ⟨v, hv, r⟩ := h.get e
      rw [hv]
      exact .cons r ih
structure CallKOk (X : Cx) (F : CF) (fi ar : Nat) (x : Str) (n : Nat) (ks : List Str) (pm : List Nat) : Prop where
  ar_ : ∀ ds S r, F fi ds S = some r → ds.length = ar
  ex : ∃ (f : Addr) (fd : FuncData) (ps : List Str) (k : Nat), X.mg x = some (.ref f) ∧ PySem.W.keepIn X.K (.ref f) = true ∧ (∀ (s : Shared) (us ws : List Value), us.length = n → ws.length = ks.length → BindsTo s fd ⟨us, ks.zip ws⟩ (ps.zip (prm pm (us ++ ws)))) ∧ Room k X.A ∧ FnI X.prog X.w X.K X.mg X.base k f fd ps (spI X.K F ar fi)
/-- the keywords' values -/
theorem k_nil : PK X [] (tA X.K F .nil) := ⟨fun pos pins s σ H Q I ⟨ρ, S, μ, d, S', g, r, q, k⟩ => by
  simp only [evs] at q
  cases q
  exact pk_nil.run pos pins s σ H Q I (k [] μ H g (Evo.refl _ _ _) rfl)⟩
theorem k_cons {nm : Option Str} {kpos : Pos} {kws : List Keyword} (ha : PE X a (tE X.K F ia)) (hr : PK X kws (tA X.K F ies)) : PK X (⟨nm, a, kpos⟩ :: kws) (tA X.K F (.cons ia ies)) := ⟨fun pos pins s σ H Q I ⟨ρ, S, μ, d, S', g, r, q, k⟩ => by
  simp only [evs] at q
  split at q
  · cases q
  · rename_i x S1 ea
    split at q
    · cases q
    · rename_i xs S2 eb
      cases q
      exact (pk_cons ha hr).run pos pins s σ H Q I ⟨ρ, S, μ, x, S1, g, r, ea, fun v μ1 H1 g1 e1 rv => ⟨ρ, S1, μ1, xs, _, g1, r.mono g e1.w, eb, fun vs μ2 H2 g2 e2 rw => k _ _ _ g2 (e1.trans e2) ⟨v, vs, rfl, rv.mono g1 e2.w, rw⟩⟩⟩⟩
/-- f(k = v, ..) -/
theorem i_callK0 {fi ar : Nat} {x : Str} {p : Pos} {kws : List Keyword} {ks : List Str} {pm : List Nat} {kes : Es} (ok : Cok X) (hg : Gl X x) (C : CallKOk X F fi ar x 0 ks pm) (hkw : PK X kws (tA X.K F kes)) (hl : plainEs kes = some ks.length)
    (hall : (backToKw pos (keywordEach kws X.env)).all (·.1.isSome) = true := by rfl) (hks : (backToKw pos (keywordEach kws X.env)).filterMap (·.1) = ks := by rfl) (hdb : (x == ("__debug__" : Str)) = false := by decide)
    (hpl : ((backTo pos (starEach [] X.env)).any (·.1) || (backToKw pos (keywordEach kws X.env)).any (·.1.isNone)) = false := by rfl) : PE X (.Call (.Name x p) [] kws pos) (tE X.K F (.callK fi .nil kes pm)) := by
  obtain ⟨f, fd, ps, k, hm, hk, hb, hr, G⟩ := C.ex
  refine ⟨fun pins s σ H Q I ⟨ρ, S, μ, d, S', g, r, q, kk⟩ => ?_⟩
  simp only [ev, evs] at q
  split at q
  · cases q
  · rename_i ys S2 eb
    refine wpAny_Call_Name_kw (ld_glob I hg hm ?_ hdb)
    refine PySem.W.callWith_KW0 (h₀ := X.base) I.ok.mod.kin hk hall ?_ hpl
    refine thn (hkw.run pos pins s σ H (fun vs H1 => vs.length = ks.length ∧ spI X.K F ar fi (prm pm ([] ++ vs)) H1 Q) I (tA_run g r eb fun vs μ1 H1 g1 e1 rv => ?_)) ?_
    · exact ⟨by rw [← rv.length, evs_len hl eb], S2, μ1, _, d, S', g1, reps_prm (by simpa using rv) pm, C.ar_ _ _ _ q, q, fun v μ2 H2 g2 e2 rd => kk v μ2 H2 g2 (e1.trans e2) rd⟩
    · rintro us s1 ⟨vs, H1, I1, rr, hl2, hq⟩
      refine ⟨I1.kIn, ?_⟩
      rw [hks]
      refine wpAny_call (run_I G hr ok.gd I1 (hb s1 [] us rfl (by rw [← rr.length, hl2])) (vals_prm (by simpa using rr) pm) hq)
/-- f(e, .., k = v, ..) -/
theorem i_callK {fi ar n : Nat} {x : Str} {p : Pos} {kws : List Keyword} {ks : List Str} {pm : List Nat} {kes : Es} (ok : Cok X) (hg : Gl X x) (C : CallKOk X F fi ar x n ks pm) (ha : PA X (e :: es) (tA X.K F ies)) (hn : plainEs ies = some n) (hkw : PK X kws (tA X.K F kes)) (hl : plainEs kes = some ks.length)
    (hall : (backToKw pos (keywordEach kws X.env)).all (·.1.isSome) = true := by rfl) (hks : (backToKw pos (keywordEach kws X.env)).filterMap (·.1) = ks := by rfl) (hdb : (x == ("__debug__" : Str)) = false := by decide) (he : starEach (e :: es) X.env = (false, eval e X.env) :: starEach es X.env := by rfl)
    (hpl : ((backTo pos (starEach (e :: es) X.env)).any (·.1) || (backToKw pos (keywordEach kws X.env)).any (·.1.isNone)) = false := by rfl) : PE X (.Call (.Name x p) (e :: es) kws pos) (tE X.K F (.callK fi ies kes pm)) := by
  obtain ⟨f, fd, ps, k, hm, hk, hb, hr, G⟩ := C.ex
  refine ⟨fun pins s σ H Q I ⟨ρ, S, μ, d, S', g, r, q, kk⟩ => ?_⟩
  simp only [ev] at q
  split at q
  · cases q
  · rename_i xs S1 ea
    split at q
    · cases q
    · rename_i ys S2 eb
      refine wpAny_Call_Name_kw (ld_glob I hg hm ?_ hdb)
      refine PySem.W.callWith_KW (h₀ := X.base) I.ok.mod.kin hk hall (thn (ha.run pos pins s σ H (fun vs H1 => ∃ μ1, Good X.K S1 μ1 H1 ∧ Evo S μ H S1 μ1 H1 ∧ Reps X.K S1 μ1 H1 xs vs) I (tA_run g r ea fun vs μ1 H1 g1 e1 rv => ⟨μ1, g1, e1, rv⟩)) ?_) hpl he
      rintro us s1 ⟨vs, H1, I1, rr, μ1, g1, e1, rv⟩
      refine thn (hkw.run pos pins s1 σ H1 (fun ws H2 => ws.length = ks.length ∧ spI X.K F ar fi (prm pm (vs ++ ws)) H2 Q) I1 (tA_run g1 (r.mono g e1.w) eb fun ws μ2 H2 g2 e2 rw => ?_)) ?_
      · exact ⟨by rw [← rw.length, evs_len hl eb], S2, μ2, _, d, S', g2, reps_prm ((rv.mono g1 e2.w).append rw) pm, C.ar_ _ _ _ q, q, fun v μ3 H3 g3 e3 rd => kk v μ3 H3 g3 ((e1.trans e2).trans e3) rd⟩
      · rintro zs s2 ⟨ws, H2, I2, rz, hl2, hq⟩
        refine ⟨I2.kIn, ?_⟩
        rw [hks]
        refine wpAny_call (run_I G hr ok.gd I2 (hb s2 us zs (by rw [← rr.length, ← rv.length, evs_len hn ea]) (by rw [← rz.length, hl2])) (vals_prm (rr.append rz) pm) hq)

theorem biD_read {K : PySem.W.Frag} {b : BI} {σ : L2.St} {H : Hp} {Q : VK} : tE K F (.bi b ies) σ H Q → tCB (rBi K b) (tA K F ies) σ H Q := fun ⟨ρ, S, μ, d, S', g, r, q, k⟩ => by
  simp only [ev] at q
  split at q
  · rename_i xs S1 ea
    split at q
    · rename_i ys sy
      split at q
      · rename_i z ez
        cases q
        refine ⟨ρ, S, μ, xs, _, g, r, ea, fun vs μ1 H1 g1 e1 rv => ⟨_, μ1, ys, _, g1, seeAll_ok g1 rv sy, ez, fun v' H' g2 e2 rz => k v' μ1 H' g2 (e1.trans e2) rz⟩⟩
      · cases q
    · cases q
  · cases q
/-- f(e, ..), f a built-in function -/
theorem i_biB {b : BI} {id : String} {x : Str} {p : Pos} (ok : Cok X) (hid : biV b = .builtin id) (hg : Gl X x) (hm : X.mg x = none) (hv : bootBuiltins x = some (.builtin id)) (ha : PA X (e :: es) (tA X.K F ies)) (hn : x ≠ "__name__" := by decide) (hdb : (x == ("__debug__" : Str)) = false := by decide)
    (he : starEach (e :: es) X.env = (false, eval e X.env) :: starEach es X.env := by rfl) (hpl : (backTo pos (starEach es X.env)).any (·.1) = false := by rfl) : PE X (.Call (.Name x p) (e :: es) [] pos) (tE X.K F (.bi b ies)) :=
  PE.weak (pe_callB (r := rBi X.K b) (by rw [← hid]; exact call_bi ok.calm ok.gd ok.un b) hg hm hv ha hn hdb he hpl) fun σ H Q h => biD_read h
/-- T(e, ..), T a built-in type -/
theorem i_biT {b : BI} {T : String} {x : Str} {p : Pos} (ok : Cok X) (hid : biV b = .type T) (hg : Gl X x) (hm : X.mg x = none) (hv : bootBuiltins x = some (.type T)) (ha : PA X (e :: es) (tA X.K F ies)) (hn : x ≠ "__name__" := by decide) (hdb : (x == ("__debug__" : Str)) = false := by decide)
    (he : starEach (e :: es) X.env = (false, eval e X.env) :: starEach es X.env := by rfl) (hpl : (backTo pos (starEach es X.env)).any (·.1) = false := by rfl) : PE X (.Call (.Name x p) (e :: es) [] pos) (tE X.K F (.bi b ies)) :=
  PE.weak (pe_callTy (r := rBi X.K b) (by rw [← hid]; exact call_bi ok.calm ok.gd ok.un b) hg hm hv ha hn hdb he hpl) fun σ H Q h => biD_read h

/-- list(e), a place of its own -/
theorem i_mk {x : Str} {p : Pos} (ok : Cok X) (hg : Gl X x) (hm : X.mg x = none) (hv : bootBuiltins x = some (.type "list")) (ha : PA X (e :: es) (tA X.K F ies)) (hn : x ≠ "__name__" := by decide) (hdb : (x == ("__debug__" : Str)) = false := by decide)
    (he : starEach (e :: es) X.env = (false, eval e X.env) :: starEach es X.env := by rfl) (hpl : (backTo pos (starEach es X.env)).any (·.1) = false := by rfl) : PE X (.Call (.Name x p) (e :: es) [] pos) (tE X.K F (.mk ies)) :=
  PE.weak (pe_callTy (r := rMk X.K) (call_mk ok.calm) hg hm hv ha hn hdb he hpl) fun σ H Q ⟨ρ, S, μ, d, S', g, r, q, k⟩ => by
    simp only [ev] at q
    split at q
    · rename_i xs S1 ea
      split at q
      · rename_i ys sy
        split at q
        · rename_i zs ez
          exact ⟨ρ, S, μ, xs, _, g, r, ea, fun vs μ1 H1 g1 e1 rv => ⟨_, μ1, ys, zs, _, _, g1, seeAll_ok g1 rv sy, ez, q, fun v' μ' H' g2 e2 rz => k v' μ' H' g2 (e1.trans e2) rz⟩⟩
        · cases q
      · cases q
    · cases q

theorem i_fmt {a : Expr} {ia : E} (ha : PE X a (tE X.K F ia)) : PE X (.FormattedValue a (-1) none pos) (tE X.K F (.fmt ia)) :=
  PE.weak (pe_fmt ha) fun σ H Q ⟨ρ, S, μ, d, S', g, r, q, k⟩ => by
    simp only [ev] at q
    split at q
    · rename_i y S1 ea
      split at q
      · rename_i hz
        cases q
        exact ⟨ρ, S, μ, _, _, g, r, ea, fun v μ1 H1 g1 e1 rv => .inl ⟨y, rv, small_line hz, k _ _ _ g1 e1 rfl⟩⟩
      · cases q
    · rename_i i S1 ea
      split at q
      · rename_i hz
        rw [decide_eq_true_eq] at hz
        cases q
        exact ⟨ρ, S, μ, _, _, g, r, ea, fun v μ1 H1 g1 e1 rv => .inr ⟨i, rv, by have := natAbs_log hz (by decide); omega, k _ _ _ g1 e1 rfl⟩⟩
      · cases q
    · cases q
def tsOf (K : PySem.W.Frag) (F : CF) : Es → List TE
  | .nil => []
  | .cons e es => tE K F e :: tsOf K F es
  | .star _ _ => []
inductive PJI (X : Cx) (F : CF) : List Expr → Es → Prop where
  | nil : PJI X F [] .nil
  | cons {e : Expr} {es : List Expr} {ie : E} {ies : Es} (h : PE X e (tE X.K F ie)) (r : PJI X F es ies) : PJI X F (e :: es) (.cons ie ies)
theorem pji_pj {es : List Expr} {ies : Es} (h : PJI X F es ies) : PJ X es (tsOf X.K F ies) := by
  induction h with
  | nil => exact .nil
  | cons h _ ih => exact .cons h ih
theorem js_run {K : PySem.W.Frag} {σ : L2.St} {Q : Str → Hp → Prop} {es : List Expr} {ies : Es} (h : PJI X F es ies) : ∀ (acc : Str) (ρ : Env) (S S1 : Sto) (μ : Mu) (H : Hp) (xs : List D) (ss : List Str), Good K S μ H → RelS K S μ H ρ σ → evs F ies ρ S = some (xs, S1) → strs? xs = some ss → acc.length + (ss.map (·.length)).sum ≤ sizeLine →
    (∀ μ' H', Good K S1 μ' H' → Evo S μ H S1 μ' H' → Q (catS acc ss) H') → tJs (tsOf K F ies) acc σ H Q := by
  induction h with
  | nil =>
    intro acc ρ S S1 μ H xs ss g r q qs hz k
    simp only [evs] at q
    cases q
    cases qs
    exact k μ H g (Evo.refl _ _ _)
  | @cons e es ie ies hp r0 ih =>
    intro acc ρ S S1 μ H xs ss g r q qs hz k
    simp only [evs] at q
    split at q
    · cases q
    · rename_i x S2 ea
      split at q
      · cases q
      · rename_i ys S3 eb
        cases q
        cases x with
        | str y =>
          simp only [strs?] at qs
          obtain ⟨rs, e1, rfl⟩ := Option.map_eq_some_iff.mp qs
          simp only [List.map_cons, List.sum_cons] at hz
          refine ⟨ρ, S, μ, _, _, g, r, ea, fun v μ1 H1 g1 ev1 rv => ⟨y, rv, by rw [strLen_append]; omega, ih (acc ++ y) ρ S2 S1 μ1 H1 ys rs g1 (r.mono g ev1.w) eb e1 (by rw [strLen_append]; omega) fun μ' H' g' e' => k μ' H' g' (ev1.trans e')⟩⟩
        | _ => simp [strs?] at qs
theorem i_js {v1 v2 : Expr} {rest : List Expr} {ies : Es} (h : PJI X F (v1 :: v2 :: rest) ies) : PE X (.JoinedStr (v1 :: v2 :: rest) pos) (tE X.K F (.js ies)) :=
  PE.weak (pe_joined (pji_pj h)) fun σ H Q ⟨ρ, S, μ, d, S', g, r, q, k⟩ => by
    simp only [ev] at q
    split at q
    · rename_i xs S1 ea
      split at q
      · rename_i ss es
        split at q
        · rename_i hz
          cases q
          exact js_run h _ ρ S S' μ H xs ss g r ea es (by have := small_line hz; show 0 + _ ≤ _; omega) fun μ' H' g' e' => k _ _ _ g' e' rfl
        · cases q
      · cases q
    · cases q

def rIsO (K : PySem.W.Frag) (tys : List Ty) (one : Bool) : List V → Hp → VK → Prop := fun vs H Q => ∃ S μ x v, Good K S μ H ∧ Seen K S μ H x v ∧ (∀ i, x ≠ .ref i) ∧
  ((one = true ∧ ∃ t, tys = [t] ∧ vs = [v, .ty (tyS t)]) ∨ (one = false ∧ ∃ p, vs = [v, .ref p] ∧ H p = some (.tup (tys.map fun t => V.ty (tyS t))))) ∧ Q (.bl (tys.any (isTy x))) H
theorem pairedC : ∀ ts : List Ty, Paired ClsV (ts.map fun t => V.ty (tyS t)) (ts.map fun t => Value.type (tyS t))
  | [] => .nil
  | t :: ts => .cons (.ty _) (pairedC ts)
theorem call_isO {tys : List Ty} {one : Bool} : CallR X (.builtin "isinstance") (rIsO X.K tys one) := by
  intro pins s σ H vs us Q I r h
  obtain ⟨S, μ, x, v, g, hx, nr, h, q⟩ := h
  rcases h with ⟨_, t, rfl, rfl⟩ | ⟨_, p, rfl, hp⟩
  · refine call_isi pins s σ H _ us Q I r ⟨v, .ty (tyS t), _, _, isTy x t, rfl, .ty _, ty_of nr hx, kit_isTy t, ?_⟩
    simpa using q
  · exact call_isiT pins s σ H _ us Q I r ⟨v, p, _, _, _, _, rfl, hp, pairedC tys, ty_of nr hx, kit_any tys, q⟩
/-- the classes' names -/
structure TyOk (X : Cx) (e : Expr) (t : Ty) : Prop where
  pe : PE X e (tC (.ty (tyS t)))
theorem ty_ok {x : Str} {t : Ty} {p : Pos} (hg : Gl X x) (hm : X.mg x = none) (hv : bootBuiltins x = some (.type (tyS t))) (hn : x ≠ "__name__" := by decide) (hdb : (x == ("__debug__" : Str)) = false := by decide) : TyOk X (.Name x p) t := ⟨pe_bltn hg hm hv rfl hn hdb⟩
theorem is_read {K : PySem.W.Frag} {tys : List Ty} {σ : L2.St} {H : Hp} {Q : VK} (h : tE K F (.isi ia tys) σ H Q) : tE K F ia σ H fun v H1 => ∃ S μ x, Good K S μ H1 ∧ Seen K S μ H1 x v ∧ (∀ i, x ≠ .ref i) ∧ ∀ H2, Good K S μ H2 → Evo S μ H1 S μ H2 → Q (.bl (tys.any (isTy x))) H2 := by
  obtain ⟨ρ, S, μ, d, S', g, r, q, k⟩ := h
  simp only [ev] at q
  split at q
  · rename_i x S1 ea
    split at q
    · rename_i x' sx
      cases q
      exact ⟨ρ, S, μ, x, _, g, r, ea, fun v μ1 H1 g1 e1 rv => ⟨_, μ1, x', g1, see_ok g1 rv sx, see_noref sx, fun H2 g2 e2 => k _ _ _ g2 (e1.trans e2) rfl⟩⟩
    · cases q
  · cases q
theorem seen_mono {K : PySem.W.Frag} {S : Sto} {μ : Mu} {H H' : Hp} (g : Good K S μ H) (e : Evo S μ H S μ H') (hw : ∀ (i : Nat) (xs : List D) (a : Addr), S[i]? = some (some xs) → μ.ps[i]? = some a → H' a = H a) {x : D} {v : V} (h : Seen K S μ H x v) : Seen K S μ H' x v := by
  cases x with
  | lst xs =>
    obtain ⟨a, vs, e1, q, r⟩ := h
    refine ⟨a, vs, e1, ?_, r.mono g e.w⟩
    rcases q with (q | ⟨o, q⟩) | q
    · by_cases l : Live S μ a
      · rcases l with ⟨i, ys, e2, m⟩ | l
        · exact .inl (.inl (by rw [hw i ys a e2 m]; exact q))
        · exact .inl (.inl (e.hold a _ l q))
      · exact .inl (.inl (e.w.old a _ q l).1)
    · refine .inl (.inr ⟨o, (e.w.old a _ q (g.notLive fun ws z => ?_)).1⟩)
      rw [q] at z; cases z
      exact notPl_frz
    · exact .inr q
  | non => exact Rep.mono g e.w h
  | bl _ => exact Rep.mono g e.w h
  | int _ => exact Rep.mono g e.w h
  | str _ => exact Rep.mono g e.w h
  | tup _ => exact Rep.mono g e.w h
  | ref _ => exact Rep.mono g e.w h
  | cl _ _ => exact False.elim h
  | dct => exact Rep.mono g e.w h
theorem i_is1 {t : Ty} {p : Pos} {tn : Expr} (hg : Gl X "isinstance") (hm : X.mg "isinstance" = none) (ha : PE X a (tE X.K F ia)) (ht : TyOk X tn t)
    (he : starEach [a, tn] X.env = (false, eval a X.env) :: starEach [tn] X.env := by rfl) (h2 : starEach [tn] X.env = (false, eval tn X.env) :: starEach [] X.env := by rfl) (hpl : (backTo pos (starEach [tn] X.env)).any (·.1) = false := by rfl) :
    PE X (.Call (.Name "isinstance" p) [a, tn] [] pos) (tE X.K F (.isi ia [t])) :=
  PE.weak (pe_callB (r := rIsO X.K [t] true) call_isO hg hm PyProof.Rows.boot_isinstance (pa_cons ha (pa_cons ht.pe pa_nil h2) he) (by decide) (by decide) he hpl) fun σ H Q h => by
    obtain ⟨ρ, S, μ, d, S', g, r, q, k⟩ := is_read h
    exact ⟨ρ, S, μ, d, S', g, r, q, fun v μ' H' g' e' rv => by
      obtain ⟨S2, μ2, x, g2, hx, nr, kk⟩ := k v μ' H' g' e' rv
      exact ⟨S2, μ2, x, v, g2, hx, nr, .inl ⟨rfl, t, rfl, rfl⟩, kk H' g2 (Evo.refl _ _ _)⟩⟩
/-- isinstance(x, (T1, T2, ..)) -/
structure TysOk (X : Cx) (es : List Expr) (ts : List Ty) : Prop where
  pa : PA X es (fun _ H Q => Q (ts.map fun t => V.ty (tyS t)) H)
theorem tys_nil : TysOk X [] [] := ⟨pa_nil⟩
theorem tys_cons {t : Ty} {ts : List Ty} (h : TyOk X a t) (hr : TysOk X es ts) (hs : starEach (a :: es) X.env = (false, eval a X.env) :: starEach es X.env := by rfl) : TysOk X (a :: es) (t :: ts) := ⟨pa_cons h.pe hr.pa hs⟩
theorem i_isT {ts : List Ty} {p pt : Pos} {kt : Nat} {tes : List Expr} (hz : ts.length ≤ 20) (hg : Gl X "isinstance") (hm : X.mg "isinstance" = none) (ha : PE X a (tE X.K F ia)) (ht : TysOk X tes ts)
    (he : starEach [a, .Tuple tes kt pt] X.env = (false, eval a X.env) :: starEach [.Tuple tes kt pt] X.env := by rfl) (h2 : starEach [.Tuple tes kt pt] X.env = (false, eval (.Tuple tes kt pt) X.env) :: starEach [] X.env := by rfl) (hpl : (backTo pos (starEach [.Tuple tes kt pt] X.env)).any (·.1) = false := by rfl) :
    PE X (.Call (.Name "isinstance" p) [a, .Tuple tes kt pt] [] pos) (tE X.K F (.isi ia ts)) :=
  PE.weak (pe_callB (r := rIsO X.K ts false) call_isO hg hm PyProof.Rows.boot_isinstance (pa_cons ha (pa_cons (pe_tup ht.pa) pa_nil h2) he) (by decide) (by decide) he hpl) fun σ H Q h => by
    obtain ⟨ρ, S, μ, d, S', g, r, q, k⟩ := is_read h
    refine ⟨ρ, S, μ, d, S', g, r, q, fun v μ' H' g' e' rv => ?_⟩
    obtain ⟨S2, μ2, x, g2, hx, nr, kk⟩ := k v μ' H' g' e' rv
    refine ⟨by rw [List.length_map, sizeLine_eq]; omega, fun pp hp => ?_⟩
    have ev := evo_new (o := .tup (ts.map fun t => V.ty (tyS t))) g2 hp
    refine ⟨S2, μ2, x, v, good_new g2 hp, seen_mono g2 ev (fun i xs b e1 m => upd_ne fun z => ?_) hx, nr, .inr ⟨rfl, pp, rfl, upd_same⟩, kk _ (good_new g2 hp) ev⟩
    subst z
    exact g2.none_notLive hp (.inl ⟨i, xs, e1, m⟩)

theorem tA_nil {K : PySem.W.Frag} {ρ : Env} {S : Sto} : evs F .nil ρ S = some ([], S) := by simp only [evs]
def ME.txt : ME → Bool
  | .join => true
  | .lower => true
  | .isalpha => true
  | .isalnum => true
  | .split => true
  | _ => false
theorem me_read {K : PySem.W.Frag} {m : ME} {T : String} {σ : L2.St} {H : Hp} {Q : VK} (hT : T = if m.txt = true then "str" else "list") : tE K F (.meth m ia ies) σ H Q →
    tE K F ia σ H fun x H1 => tyV K T x H1 ∧ tA K F ies σ H1 fun vs H2 => rMe K m x vs H2 Q := fun ⟨ρ, S, μ, d, S', g, r, q, k⟩ => by
  simp only [ev] at q
  split at q
  · cases q
  · rename_i o S1 ea
    split at q
    case isFalse => cases q
    rename_i hsee
    split at q
    · cases q
    · rename_i xs S2 eb
      refine ⟨ρ, S, μ, o, S1, g, r, ea, fun v μ1 H1 g1 e1 rv => ⟨?_, ρ, S1, μ1, xs, S2, g1, r.mono g e1.w, eb, fun vs μ2 H2 g2 e2 rvs => ⟨S2, μ2, o, xs, S', d, g2, rv.mono g1 e2.w, rvs, q, fun v' μ' H' g3 e3 rz => k v' μ' H' g3 ((e1.trans e2).trans e3) rz⟩⟩⟩
      by_cases hj : m.txt = true
      · rw [if_pos hj] at hT
        subst hT
        have hs : ∃ x, o = .str x := by
          unfold meD at q
          split at q <;> first | (cases q; done) | (exact ⟨_, rfl⟩) | (cases hj; done)
        obtain ⟨x, rfl⟩ := hs
        cases (show v = V.str x from rv)
        rfl
      · rw [if_neg hj] at hT
        subst hT
        cases o with
        | ref i =>
          obtain ⟨a, rfl, ma⟩ := rv
          cases hS : S1[i]? with
          | none => exact absurd ma (by rw [List.getElem?_eq_none (by rw [g1.len]; exact List.getElem?_eq_none_iff.mp hS)]; intro z; cases z)
          | some oo =>
            cases oo with
            | none => simp [see, hS] at hsee
            | some ys =>
              obtain ⟨b, oo, mb, hb, r0⟩ := g1.at_ i ys hS
              rw [ma] at mb; cases mb
              have no : isObj ys = false := by
                cases hq : isObj ys with
                | false => rfl
                | true => rw [see, hS] at hsee; simp [hq] at hsee
              obtain ⟨ws, rfl, _⟩ := Obs.ls no r0
              exact .inl ⟨rfl, ws, SqL.of hb⟩
        | lst ys =>
          obtain ⟨a, vs, rfl, qa, _⟩ := rv.lsR
          exact .inl ⟨rfl, vs, qa.l⟩
        | _ => unfold meD at q; cases m <;> first | (exact absurd rfl hj) | (simp at q)
/-- what a method's name stands for -/
structure MeF (m : ME) (T : String) (name : Str) (id : String) : Prop where
  pa : PlainAttrs T
  slot : Slot T name id
  ty : typeOf (.builtin id) = pure (.type "method_descriptor")
  id_ : meId m = id
  t : T = if m.txt = true then "str" else "list"
theorem mf_append : MeF .append "list" "append" "list.append" := ⟨PySem.F.plainAttrs_list, PySem.F.slot_list_append, PySem.F.type_list_append, rfl, rfl⟩
theorem mf_extend : MeF .extend "list" "extend" "list.extend" := ⟨PySem.F.plainAttrs_list, PySem.F.slot_list_extend, PySem.F.type_list_extend, rfl, rfl⟩
theorem mf_pop : MeF .pop "list" "pop" "list.pop" := ⟨PySem.F.plainAttrs_list, PySem.F.slot_list_pop, PySem.F.type_list_pop, rfl, rfl⟩
theorem mf_popAt : MeF .popAt "list" "pop" "list.pop" := ⟨PySem.F.plainAttrs_list, PySem.F.slot_list_pop, PySem.F.type_list_pop, rfl, rfl⟩
theorem mf_join : MeF .join "str" "join" "str.join" := ⟨PySem.F.plainAttrs_str, PySem.F.slot_str_join, PySem.F.type_str_join, rfl, rfl⟩
theorem mf_lower : MeF .lower "str" "lower" "str.lower" := ⟨PySem.F.plainAttrs_str, PySem.F.slot_str_lower, PySem.F.type_str_lower, rfl, rfl⟩
theorem mf_isalpha : MeF .isalpha "str" "isalpha" "str.isalpha" := ⟨PySem.F.plainAttrs_str, PySem.F.slot_str_isalpha, PySem.F.type_str_isalpha, rfl, rfl⟩
theorem mf_isalnum : MeF .isalnum "str" "isalnum" "str.isalnum" := ⟨PySem.F.plainAttrs_str, PySem.F.slot_str_isalnum, PySem.F.type_str_isalnum, rfl, rfl⟩
theorem mf_split : MeF .split "str" "split" "str.split" := ⟨PySem.F.plainAttrs_str, PySem.F.slot_str_split, PySem.F.type_str_split, rfl, rfl⟩
theorem mf_index : MeF .index "list" "index" "list.index" := ⟨PySem.F.plainAttrs_list, PySem.F.slot_list_index, PySem.F.type_list_index, rfl, rfl⟩
theorem i_me0 {o : Expr} {m : ME} {T : String} {name : Str} {id : String} {apos : Pos} (M : MeF m T name id) (ho : PE X o (tE X.K F ia)) (hbase : attributeBase o name X.env (eval o X.env) = eval o X.env := by rfl) (hline : (apos.endLine == pos.line) = true := by rfl) :
    PE X (.Call (.Attribute o name apos) [] [] pos) (tE X.K F (.meth m ia .nil)) :=
  PE.weak (pe_bm0 (r := rMe X.K m) M.pa M.slot M.ty (by rw [← M.id_]; exact me_run m) ho hbase hline) fun σ H Q h => by
    obtain ⟨ρ, S, μ, d, S', g, r, q, k⟩ := me_read M.t h
    exact ⟨ρ, S, μ, d, S', g, r, q, fun v μ' H' g' e' rv => by
      obtain ⟨h1, ρ2, S2, μ2, xs, S3, g2, r2, q2, k2⟩ := k v μ' H' g' e' rv
      simp only [evs] at q2
      cases q2
      exact ⟨h1, k2 [] μ2 H' g2 (Evo.refl _ _ _) rfl⟩⟩
theorem i_me {o : Expr} {m : ME} {T : String} {name : Str} {id : String} {apos : Pos} (M : MeF m T name id) (ho : PE X o (tE X.K F ia)) (ha : PA X (e :: es) (tA X.K F ies)) (hbase : attributeBase o name X.env (eval o X.env) = eval o X.env := by rfl)
    (hfew : ((backTo pos (starEach (e :: es) X.env)).all (fun x => !x.1) && (backToKw pos (keywordEach [] X.env)).all (fun x => x.1.isSome)
      && decide ((e :: es).length + ([] : List Keyword).length + (if ([] : List Keyword).isEmpty then 0 else 1) < 30)) = true := by rfl)
    (hline : (apos.endLine == pos.line) = true := by rfl) (hs : starEach (e :: es) X.env = (false, eval e X.env) :: starEach es X.env := by rfl) (hplain : (backTo pos (starEach es X.env)).any (·.1) = false := by rfl) :
    PE X (.Call (.Attribute o name apos) (e :: es) [] pos) (tE X.K F (.meth m ia ies)) :=
  PE.weak (pe_bm (r := rMe X.K m) M.pa M.slot M.ty (by rw [← M.id_]; exact me_run m) ho ha hbase hfew hline hs hplain) fun σ H Q h => me_read M.t h
end

section
variable {X : Cx} {F : CF} {a b c e : Expr} {es : List Expr} {ia ib ic ie : E} {ies : Es} {pos : Pos}
def slotsT : Tg → List Nat
  | .n i => [i]
  | .t is => is
/-- a target's reading -/
def gT (K : PySem.W.Frag) (t : Tg) : TG := fun v σ H Q => ∃ (d : D) (ρ ρ' : Env) (S : Sto) (μ : Mu), Good K S μ H ∧ RelS K S μ H ρ σ ∧ Rep K S μ H d v ∧ setT t d ρ = some ρ' ∧
  ∀ σ', RelS K S μ H ρ' σ' → σ'.length = σ.length → (∀ j, j ∉ slotsT t → σ'[j]? = σ[j]?) → Q σ' H
theorem PG.weak {tg : Expr} {t t' : TG} (h : PG X tg t) (k : ∀ v σ H Q, t' v σ H Q → t v σ H Q) : PG X tg t' := ⟨fun pins s σ H v u Q I r q => h.run pins s σ H v u Q I r (k v σ H Q q)⟩
theorem g_n {i : Nat} {x : Str} (ok : Cok X) (hi : X.N[i]? = some x) (hx : Loc X.env.scope x) (hf : X.fn x = true ∨ X.env.scope.names.lookup x = some .local := by first | exact .inl rfl | exact .inr rfl | assumption) : PG X (.Name x pos) (gT X.K (.n i)) :=
  PG.weak (pg_name ok.nd hi hx hf) fun v σ H Q ⟨d, ρ, ρ', S, μ, g, r, rv, st, k⟩ => by
    cases st
    exact k _ (r.set i rv) (by rw [List.length_set]) fun j hj => List.getElem?_set_ne (by intro z; exact hj (by simp [slotsT, z]))
/-- several names -/
inductive Names (X : Cx) : List Expr → List Nat → Prop where
  | nil : Names X [] []
  | cons {i : Nat} {x : Str} {p : Pos} {es : List Expr} {is : List Nat} (hi : X.N[i]? = some x) (hx : Loc X.env.scope x) (hf : X.fn x = true ∨ X.env.scope.names.lookup x = some .local) (t : Names X es is) : Names X (.Name x p :: es) (i :: is)
def gNames : List Nat → TGs
  | [] => gNil
  | i :: is => gCons (gName i) (gNames is)
theorem pgs_names (nd : X.N.Nodup) : ∀ {es : List Expr} {is : List Nat}, Names X es is → PGs X es (gNames is)
  | _, _, .nil => pgs_nil
  | _, _, .cons hi hx hf t => pgs_cons (pg_name nd hi hx hf) (pgs_names nd t)
theorem names_read {K : PySem.W.Frag} {S : Sto} {μ : Mu} {H : Hp} {Q : L2.St → Hp → Prop} : ∀ (is : List Nat) (ds : List D) (vs : List V) (ρ : Env) (σ : L2.St), ds.length = is.length → Reps K S μ H ds vs → RelS K S μ H ρ σ →
    (∀ σ', RelS K S μ H ((is.zip ds).foldl (fun r p => r.set p.1 (some p.2)) ρ) σ' → σ'.length = σ.length → (∀ j, j ∉ is → σ'[j]? = σ[j]?) → Q σ' H) → gNames is vs σ H Q
  | [], [], vs, ρ, σ, _, rv, r, k => by
    cases (show vs = [] from rv)
    exact ⟨rfl, k σ r rfl fun _ _ => rfl⟩
  | [], _ :: _, _, _, _, h, _, _, _ => by cases h
  | _ :: _, [], _, _, _, h, _, _, _ => by cases h
  | i :: is, d :: ds, vs, ρ, σ, h, rv, r, k => by
    obtain ⟨v, ws, rfl, h1, h2⟩ := rv
    refine ⟨v, ws, rfl, names_read is ds ws (ρ.set i (some d)) (σ.set i (some v)) (by simpa using h) h2 (r.set i h1) fun σ' r' l' n' => k σ' r' (by rw [l', List.length_set]) fun j hj => ?_⟩
    rw [n' j fun z => hj (List.mem_cons_of_mem _ z), List.getElem?_set_ne]
    intro z
    exact hj (by rw [z]; exact List.mem_cons_self)
theorem names_each : ∀ {es : List Expr} {is : List Nat}, Names X es is → (assignEach es X.env).length = is.length ∧ (assignEach es X.env).findIdx? (·.1) = none
  | _, _, .nil => ⟨rfl, rfl⟩
  | _, _, .cons (x := x) (p := p) (es := es) hi hx hf t => by
    obtain ⟨h1, h2⟩ := names_each t
    have e : assignEach (.Name x p :: es) X.env = (false, assign (.Name x p) X.env) :: assignEach es X.env := rfl
    rw [e]
    refine ⟨by rw [List.length_cons, List.length_cons, h1], ?_⟩
    rw [List.findIdx?_cons, h2]
    rfl
theorem g_t {is : List Nat} {k : Nat} (ok : Cok X) (N : Names X es is) : PG X (.Tuple es k pos) (gT X.K (.t is)) := by
  have ht : PG X (.Tuple es k pos) _ := pg_tup (n := is.length) ok.calm (pgs_names ok.nd N) (names_each N).1 (names_each N).2
  have hl : PG X (.Tuple es k pos) _ := pg_lst (n := is.length) ok.calm (pgs_names ok.nd N) (names_each N).1 (names_each N).2
  refine ⟨fun pins s σ H v u Q I r ⟨d, ρ, ρ', S, μ, g, re, rv, st, kk⟩ => ?_⟩
  cases d with
  | tup ds =>
    simp only [setT] at st
    split at st
    · rename_i hz
      cases st
      obtain ⟨a, vs, rfl, q, rr⟩ := rv
      exact ht.run pins s σ H _ u Q I r ⟨a, vs, rfl, q, by rw [← rr.length]; exact hz, names_read is ds vs ρ σ hz rr re kk⟩
    · cases st
  | lst ds =>
    simp only [setT] at st
    split at st
    · rename_i hz
      cases st
      obtain ⟨a, vs, rfl, q, rr⟩ := rv
      exact hl.run pins s σ H _ u Q I r ⟨a, vs, rfl, SqP.l (q.elim (fun z => .inl z.1) .inr), by rw [← rr.length]; exact hz, names_read is ds vs ρ σ hz rr re kk⟩
    · cases st
  | _ => cases st
end
end Iv

set_option Elab.async false
set_option linter.all false
set_option maxRecDepth 100000
set_option maxHeartbeats 1000000
namespace Iv
open PySem PySem.Spec PyProof.Rows L2

/-- a tuple at a beside a list at b -/
def ItM (K : PySem.W.Frag) (a b : Addr) : It :=
  ⟨fun i H => ∃ (xs ys : List V) (x y : V), SqT K H a xs ∧ SqL K H b ys ∧ xs[i]? = some x ∧ ys[i]? = some y,
   fun i H v H' => ∃ T x y, v = .ref T ∧ H T = none ∧ H' = upd H T (.tup [x, y]) ∧ (∀ xs, SqT K H a xs → xs[i]? = some x) ∧ (∀ ys, SqL K H b ys → ys[i]? = some y),
   fun i H => ∃ xs ys : List V, SqT K H a xs ∧ SqL K H b ys ∧ i ≤ xs.length ∧ i ≤ ys.length ∧ (i = xs.length ∨ i = ys.length)⟩
/-- how the zip stands behind i turns -/
def StM (z TI TO i1 i2 a b : Addr) (i : Nat) (h : Heap) : Prop := IsZip h z TI TO .none ∧ IsTupOf2 h TI (.ref i1) (.ref i2) ∧ (∃ x y, IsTupOf2 h TO x y) ∧ h.IsTupleIter i1 a i ∧ h.IsListIter i2 b i
theorem cases5 {c z TI TO i1 i2 : Addr} {P : Addr → Prop} (h : c ∈ [z, TI, TO, i1, i2]) (p1 : P z) (p2 : P TI) (p3 : P TO) (p4 : P i1) (p5 : P i2) : P c := by
  simp only [List.mem_cons, List.not_mem_nil, or_false] at h
  rcases h with rfl | rfl | rfl | rfl | rfl <;> assumption
theorem turnM {P : Program} {w : World} {K : PySem.W.Frag} {elts : List Expr} {kk : Nat} {tpos : Pos} {a b z TI TO i1 i2 : Addr} (D : ZipSep2 z TI TO i1 i2 [i1, a] [i2, b]) :
    Turn P w K (.Tuple elts kk tpos) (ItM K a b) [z, TI, TO, i1, i2] z (StM z TI TO i1 i2 a b) where
  mem := List.mem_cons_self
  obj := fun i h ⟨hz, hTI, ⟨x, y, hTO⟩, ⟨o1, e1, _, d1⟩, ⟨o2, e2, _, d2⟩⟩ c hc =>
    cases5 (P := fun c => ∃ o, h.get? c = some o ∧ ∀ v, o.data ≠ .cell v) hc ⟨_, hz, fun v q => nomatch q⟩ ⟨_, hTI, fun v q => nomatch q⟩ ⟨_, hTO, fun v q => nomatch q⟩ ⟨o1, e1, fun v q => by rw [d1] at q; cases q⟩ ⟨o2, e2, fun v q => by rw [d2] at q; cases q⟩
  keep := fun i h h' ⟨hz, hTI, ⟨x, y, hTO⟩, h1, h2⟩ k =>
    ⟨k z (by simp) _ hz, k TI (by simp) _ hTI, ⟨x, y, k TO (by simp) _ hTO⟩, h1.at fun o q => k i1 (by simp) o q, h2.at fun o q => k i2 (by simp) o q⟩
  item := by
    intro X hP hw hK hc i pins s σ H E I hf ⟨hz, hTI, ⟨x0, y0, hTO⟩, h1, h2⟩ ⟨xs, ys, x, y, qx, qy, hx, hy⟩
    subst hP hw hK
    obtain ⟨its, rv, p, _⟩ := I.tuple qx
    obtain ⟨its2, rv2, p2, _⟩ := I.list qy
    obtain ⟨u, hu, ru⟩ := rv.get hx
    obtain ⟨u2, hu2, ru2⟩ := rv2.get hy
    have lt1 : i < its.toArray.size := by rw [List.size_toArray]; exact (List.getElem?_eq_some_iff.mp hu).1
    have lt2 : i < its2.toArray.size := by rw [List.size_toArray]; exact (List.getElem?_eq_some_iff.mp hu2).1
    have zl : z < s.heap.objs.size := Heap.lt_size hz
    have na : a ≠ i1 := fun q => by
      subst q
      obtain ⟨o, e, c1, _⟩ := h1
      obtain ⟨o2, e2, c2, _⟩ := p
      rw [e] at e2; cases e2
      rw [c1] at c2
      injection c2 with c3
      exact absurd c3 (by decide)
    have nb : b ≠ i2 := fun q => by
      subst q
      obtain ⟨o, e, c1, _⟩ := h2
      obtain ⟨o2, e2, c2, _⟩ := p2.isList
      rw [e] at e2; cases e2
      rw [c1] at c2
      injection c2 with c3
      exact absurd c3 (by decide)
    refine wpAny_pyNext_zipD2_item D (Draws.tuple (A := X.A.in1) (I.ok.hd hc) i1 a na its.toArray) (Draws.list (A := X.A.in1) (I.ok.hd hc) i2 b nb its2.toArray) hz hTI hTO ⟨h1, p⟩ ⟨h2, p2.isList⟩ lt1 lt2 fun y1 y2 h' tk hy1 hy2 z' TO' st1 st2 hT hsz hk => ?_
    have ey1 : u = y1 := by
      rw [List.getElem?_toArray] at hy1
      rw [hu] at hy1
      exact Option.some.inj hy1
    have ey2 : u2 = y2 := by
      rw [List.getElem?_toArray] at hy2
      rw [hu2] at hy2
      exact Option.some.inj hy2
    subst ey1 ey2
    refine ⟨_, rfl, wpAny_letOwnedTupleGo_zip (s := { s with heap := h', toks := tk }) z' fun h2' z2' sb => ?_⟩
    have hT2 : IsTupOf2 h2' s.heap.objs.size u u2 := (sb.2 _ (Nat.ne_of_gt zl)).trans hT
    have ok2 : ObjOk X.prog X.w (upd H s.heap.objs.size (.tup [x, y])) h2' s.heap.objs.size (.tup [x, y]) := ⟨(by decide : 2 ≤ sizeLine), [u, u2], .cons ru (.cons ru2 .nil), _, hT2, rfl, _, rfl⟩
    have J : Inv X pins σ (upd H s.heap.objs.size (.tup [x, y])) { s with heap := h2', toks := tk } :=
      I.turnedNew (t' := tk) (ch := [z, TI, TO, i1, i2]) (fun c o hb q => by
        simp only [List.mem_cons, List.not_mem_nil, or_false, not_or] at hb
        exact (sb.2 c hb.1).trans (hk c o hb.1 hb.2.2.1 hb.2.2.2.1 hb.2.2.2.2 q)) hf (Nat.le_refl _) ok2
    refine ⟨.ref s.heap.objs.size, _, J, rfl, ⟨_, x, y, rfl, I.hok.fresh (Nat.le_refl _), rfl, fun l hl => (I.tuple_inj hl qx) ▸ hx, fun l hl => (I.list_inj hl qy) ▸ hy⟩, ?_, fun c hc => ?_⟩
    · exact ⟨z2', (sb.2 _ D.TIz).trans (hk _ _ D.TIz D.TITO D.TIi1 D.TIi2 hTI), ⟨u, u2, (sb.2 _ D.TOz).trans TO'⟩, st1.1.at fun o q => (sb.2 _ D.zi1.symm).trans q, st2.1.at fun o q => (sb.2 _ D.zi2.symm).trans q⟩
    · have hlt : c < s.heap.objs.size := by
        obtain ⟨_, e1, _⟩ := h1
        obtain ⟨_, e2, _⟩ := h2
        exact cases5 (P := fun c => c < s.heap.objs.size) hc zl (Heap.lt_size hTI) (Heap.lt_size hTO) (Heap.lt_size e1) (Heap.lt_size e2)
      rw [upd_ne (Nat.ne_of_lt hlt)]
      exact (hf c hc).1
  done := by
    intro X hP hw hK hc i pins s σ H E I hf ⟨hz, hTI, ⟨x0, y0, hTO⟩, h1, h2⟩ ⟨xs, ys, qx, qy, l1, l2, he⟩
    subst hP hw hK
    obtain ⟨its, rv, p, _⟩ := I.tuple qx
    obtain ⟨its2, rv2, p2, _⟩ := I.list qy
    have n1 := rv.length
    have n2 := rv2.length
    have na : a ≠ i1 := fun q => by
      subst q
      obtain ⟨o, e, c1, _⟩ := h1
      obtain ⟨o2, e2, c2, _⟩ := p
      rw [e] at e2; cases e2
      rw [c1] at c2
      injection c2 with c3
      exact absurd c3 (by decide)
    have nb : b ≠ i2 := fun q => by
      subst q
      obtain ⟨o, e, c1, _⟩ := h2
      obtain ⟨o2, e2, c2, _⟩ := p2.isList
      rw [e] at e2; cases e2
      rw [c1] at c2
      injection c2 with c3
      exact absurd c3 (by decide)
    refine wpAny_pyNext_zipD2_end D (Draws.tuple (A := X.A.in1) (I.ok.hd hc) i1 a na its.toArray) (Draws.list (A := X.A.in1) (I.ok.hd hc) i2 b nb its2.toArray) hz hTI hTO ⟨h1, p⟩ ⟨h2, p2.isList⟩ (by rw [List.size_toArray]; omega) (by rw [List.size_toArray]; omega) (by rw [List.size_toArray, List.size_toArray]; omega) fun h' tk hk => ⟨rfl, ?_⟩
    exact I.turnedL (t' := tk) (ch := [z, TI, TO, i1, i2]) (fun c o hb q => by
      simp only [List.mem_cons, List.not_mem_nil, or_false, not_or] at hb
      exact hk c o hb.1 hb.2.2.1 hb.2.2.2.1 hb.2.2.2.2 q) hf
  self := fun A i s Q E st h => wpAny_pyIter_zip st.1 h
theorem neN {x y : Nat} (h : x ≠ y) : x ≠ y := h
theorem notin2 {x p q : Nat} (h1 : x ≠ p) (h2 : x ≠ q) : x ∉ [p, q] := fun h => by
  rcases List.mem_cons.mp h with z | z
  · exact h1 z
  · exact h2 (List.mem_singleton.mp z)
theorem sep5 {n a b : Nat} (la : a < n) (lb : b < n) : ZipSep2 (n + 4) (n + 2) (n + 3) n (n + 1) [n, a] [n + 1, b] where
  TIz := neN (by omega)
  TOz := neN (by omega)
  TITO := neN (by omega)
  TIi1 := neN (by omega)
  mem1 := List.mem_cons_self
  zf1 := notin2 (by omega) (by omega)
  Tf1 := notin2 (by omega) (by omega)
  TIi2 := neN (by omega)
  mem2 := List.mem_cons_self
  zf2 := notin2 (by omega) (by omega)
  Tf2 := notin2 (by omega) (by omega)
  sep1_2 := notin2 (by omega) (by omega)
  sep2_1 := notin2 (by omega) (by omega)
def iZipM (K : PySem.W.Frag) (ta : TA) : TI := fun σ H R => ta σ H fun vs H1 => ∃ a b xs ys, vs = [.ref a, .ref b] ∧ SqT K H1 a xs ∧ SqL K H1 b ys ∧ R (ItM K a b) H1
theorem pi_zipM {X : Cx} {e e2 : Expr} {ta : TA} {p pos tpos : Pos} {elts : List Expr} {kk : Nat} (hg : Gl X "zip") (hm : X.mg "zip" = none) (ha : PA X [e, e2] ta) (hs : starEach [e, e2] X.env = (false, eval e X.env) :: starEach [e2] X.env := by rfl)
    (hpl : (backTo pos (starEach [e2] X.env)).any (·.1) = false := by rfl) : PI X (.Tuple elts kk tpos) (.Call (.Name "zip" p) [e, e2] [] pos) (iZipM X.K ta) := by
  refine ⟨fun pins s σ H R I h => Call_ (ld_blt I hg hm PyProof.Rows.boot_zip (PyProof.Rows.callWith_type1 (thn (ha.run pos pins s σ H _ I h) fun us s1 ⟨vs, H1, J, r1, q1⟩ => ?_) hs hpl))⟩
  obtain ⟨a, b, xs, ys, rfl, qx, qy, q⟩ := q1
  cases r1 with
  | cons ra rr => cases rr with
    | cons rb rr =>
      cases rr; cases ra; cases rb
      obtain ⟨its, rv, p1, _⟩ := J.tuple qx
      obtain ⟨its2, rv2, p2, _⟩ := J.list qy
      have la : a < s1.heap.objs.size := by obtain ⟨o, e, _⟩ := id p1; exact Heap.lt_size e
      have lb : b < s1.heap.objs.size := p2.lt
      refine zip_begins2 (begins_tuple a its.toArray) (begins_list b its2.toArray) p1 p2.isList fun h' hz hTI hTO g1 g2 hsz hk => wpAny_pyIter_zip hz ?_
      have J2 : Inv X pins σ H1 { s1 with heap := h' } := J.kept (t' := s1.toks) hk
      have h1 : h'.IsTupleIter s1.heap.objs.size a 0 := ⟨_, g1, rfl, rfl⟩
      have h2 : h'.IsListIter (s1.heap.objs.size + 1) b 0 := ⟨_, g2, rfl, rfl⟩
      have fr : ∀ c, s1.heap.objs.size ≤ c → FpOk X pins H1 c := fun c hc => J.fpOk hc (J.hok.fresh hc)
      exact ⟨s1.heap.objs.size + 4, _, _, _, H1, rfl, J2, turnM (sep5 la lb), ⟨hz, hTI, ⟨_, _, hTO⟩, h1, h2⟩, fun c hc => cases5 (P := FpOk X pins H1) hc (fr _ (by omega)) (fr _ (by omega)) (fr _ (by omega)) (fr _ (by omega)) (fr _ (by omega)), q⟩
end Iv

set_option Elab.async false
set_option linter.all false
set_option maxRecDepth 100000
set_option maxHeartbeats 1000000
namespace Iv
open PySem PySem.Spec PyProof.Rows L2

/-- J walks xs -/
def Walk (K : PySem.W.Frag) (S0 : Sto) (μ0 : Mu) (H0 : Hp) (J : It) (xs : List D) : Prop := ∀ (S : Sto) (μ : Mu) (H : Hp), Good K S μ H → EvoW S0 μ0 H0 S μ H →
  (∀ i, i < xs.length → J.go i H) ∧ J.stop xs.length H ∧ ∀ i v H', i < xs.length → J.yld i H v H' → ∃ d, xs[i]? = some d ∧ Good K S μ H' ∧ Evo S μ H S μ H' ∧ Rep K S μ H' d v
def tI (K : PySem.W.Frag) (F : CF) (ie : E) : TI := fun σ H R => ∃ (ρ : Env) (S : Sto) (μ : Mu) (d : D) (S' : Sto) (xs : List D), Good K S μ H ∧ RelS K S μ H ρ σ ∧ ev F ie ρ S = some (d, S') ∧ items d = some xs ∧
  ∀ J μ' H', Good K S' μ' H' → Evo S μ H S' μ' H' → Walk K S' μ' H' J xs → R J H'

theorem walk_list {K : PySem.W.Frag} {S : Sto} {μ : Mu} {H : Hp} {a : Addr} {vs : List V} {xs : List D} (g : Good K S μ H) (q : (Rd H a (.lst vs) ∧ ¬ Live S μ a) ∨ KL K a vs) (r : Reps K S μ H xs vs) : Walk K S μ H (Itl K a) xs := fun S' μ' H' g' e' => by
  have q' : SqL K H' a vs := by
    rcases q with q | q
    · exact .inl (rdL e' q.1 q.2).1
    · exact SqP.l (.inr q)
  have r' := r.mono g e'
  refine ⟨fun i hi => ?_, ⟨vs, q', by rw [r.length]; exact Nat.le_refl _⟩, fun i v H2 hi y => ?_⟩
  · obtain ⟨v, hv, _⟩ := r.get (List.getElem?_eq_getElem hi)
    exact ⟨vs, v, q', hv⟩
  · obtain ⟨rfl, y⟩ := y
    obtain ⟨w, hw, rw'⟩ := r'.get (List.getElem?_eq_getElem hi)
    have := y vs q'
    rw [hw] at this
    cases this
    exact ⟨_, List.getElem?_eq_getElem hi, g', Evo.refl _ _ _, rw'⟩
theorem walk_tup {K : PySem.W.Frag} {S : Sto} {μ : Mu} {H : Hp} {a : Addr} {vs : List V} {xs : List D} (g : Good K S μ H) (q : SqT K H a vs) (r : Reps K S μ H xs vs) : Walk K S μ H (Itt K a) xs := fun S' μ' H' g' e' => by
  have q' : SqT K H' a vs := sqT_mono g e' q
  have r' := r.mono g e'
  refine ⟨fun i hi => ?_, ⟨vs, q', by rw [r.length]; exact Nat.le_refl _⟩, fun i v H2 hi y => ?_⟩
  · obtain ⟨v, hv, _⟩ := r.get (List.getElem?_eq_getElem hi)
    exact ⟨vs, v, q', hv⟩
  · obtain ⟨rfl, y⟩ := y
    obtain ⟨w, hw, rw'⟩ := r'.get (List.getElem?_eq_getElem hi)
    have := y vs q'
    rw [hw] at this
    cases this
    exact ⟨_, List.getElem?_eq_getElem hi, g', Evo.refl _ _ _, rw'⟩
theorem walk_str {K : PySem.W.Frag} {S : Sto} {μ : Mu} {H : Hp} {x : Str} : Walk K S μ H (Its x) (x.cps.toList.map fun c => .str ⟨#[c]⟩) := fun S' μ' H' g' e' => by
  have hl : (x.cps.toList.map fun c => D.str ⟨#[c]⟩).length = x.cps.size := by simp
  refine ⟨fun i hi => by rw [hl] at hi; exact hi, by rw [hl]; exact Nat.le_refl _, fun i v H2 hi y => ?_⟩
  obtain ⟨rfl, c, hc, rfl⟩ := y
  exact ⟨.str ⟨#[c]⟩, by rw [List.getElem?_map, Array.getElem?_toList, hc]; rfl, g', Evo.refl _ _ _, rfl⟩
theorem walk_rng {K : PySem.W.Frag} {S : Sto} {μ : Mu} {H : Hp} {lo : Int} {n : Nat} : Walk K S μ H (Itr lo n) ((List.range n).map fun (k : Nat) => .int (lo + k)) := fun S' μ' H' g' e' => by
  have hl : ((List.range n).map fun (k : Nat) => D.int (lo + k)).length = n := by simp
  refine ⟨fun i hi => by rw [hl] at hi; exact hi, by rw [hl]; exact Nat.le_refl _, fun i v H2 hi y => ?_⟩
  obtain ⟨rfl, rfl⟩ := y
  rw [hl] at hi
  exact ⟨.int (lo + i), by rw [List.getElem?_map, List.getElem?_range hi]; rfl, g', Evo.refl _ _ _, rfl⟩

section
variable {X : Cx} {F : CF} {a b c e tg : Expr} {es : List Expr} {ia ib ic ie : E} {ies : Es} {pos : Pos}
theorem PI.weak {X : Cx} {tg e : Expr} {t t' : TI} (h : PI X tg e t) (k : ∀ σ H R, t' σ H R → t σ H R) : PI X tg e t' := ⟨fun pins s σ H R I q => h.run pins s σ H R I (k σ H R q)⟩
/-- a list, a tuple, a text -/
theorem it_e (ha : PE X a (tE X.K F ia)) : PI X tg a (tI X.K F ia) := by
  refine ⟨fun pins s σ H R I ⟨ρ, S, μ, d, S', xs, g, r, q, hi, k⟩ => ?_⟩
  cases d with
  | lst ys =>
    cases hi
    refine (pi_list ha).run pins s σ H R I ⟨ρ, S, μ, _, S', g, r, q, fun v μ1 H1 g1 e1 rv => ?_⟩
    obtain ⟨p, vs, rfl, qa, ra⟩ := rv
    exact ⟨p, rfl, ⟨vs, SqP.l (qa.elim (fun z => .inl z.1) .inr)⟩, k _ _ _ g1 e1 (walk_list g1 qa ra)⟩
  | tup ys =>
    cases hi
    refine (pi_tup ha).run pins s σ H R I ⟨ρ, S, μ, _, S', g, r, q, fun v μ1 H1 g1 e1 rv => ?_⟩
    obtain ⟨p, vs, rfl, qa, ra⟩ := rv
    exact ⟨p, rfl, ⟨vs, qa⟩, k _ _ _ g1 e1 (walk_tup g1 qa ra)⟩
  | str x =>
    cases hi
    refine (pi_str ha).run pins s σ H R I ⟨ρ, S, μ, _, S', g, r, q, fun v μ1 H1 g1 e1 rv => ?_⟩
    exact ⟨x, rv, k _ _ _ g1 e1 walk_str⟩
  | _ => cases hi
theorem it_rng1 {p : Pos} (hg : Gl X "range") (hm : X.mg "range" = none) (ha : PE X a (tE X.K F ia)) (hs : starEach [a] X.env = [(false, eval a X.env)] := by rfl) : PI X tg (.Call (.Name "range" p) [a] [] pos) (tI X.K F (.rng (.c (.int 0)) ia)) :=
  PI.weak (pi_range1 hg hm (a_cons ha a_nil hs) hs) fun σ H R ⟨ρ, S, μ, d, S', xs, g, r, q, hi, k⟩ => by
    simp only [ev] at q
    split at q
    · rename_i j S2 eb
      split at q
      · rename_i hb
        cases q
        cases hi
        rw [Bool.and_eq_true, Bool.and_eq_true, Bool.and_eq_true, decide_eq_true_eq, decide_eq_true_eq, decide_eq_true_eq, decide_eq_true_eq] at hb
        refine ⟨ρ, S, μ, [.int j], S', g, r, by simp only [evs, eb], fun vs μ1 H1 g1 e1 rv => ?_⟩
        obtain ⟨v, rfl, hv⟩ := reps1 rv
        cases (show v = V.int j from hv)
        refine ⟨j, rfl, hb.1.2, hb.2, k _ μ1 H1 g1 e1 ?_⟩
        rw [Int.sub_zero]
        exact walk_rng
      · cases q
    · cases q
theorem it_rng2 {p : Pos} (hg : Gl X "range") (hm : X.mg "range" = none) (ha : PE X a (tE X.K F ia)) (hb : PE X b (tE X.K F ib)) (hs : starEach [a, b] X.env = [(false, eval a X.env), (false, eval b X.env)] := by rfl) (hs2 : starEach [b] X.env = [(false, eval b X.env)] := by rfl) :
    PI X tg (.Call (.Name "range" p) [a, b] [] pos) (tI X.K F (.rng ia ib)) :=
  PI.weak (pi_range2 hg hm (a_cons ha (a_cons hb a_nil hs2) (by rw [hs, hs2])) hs hs2) fun σ H R ⟨ρ, S, μ, d, S', xs, g, r, q, hi, k⟩ => by
    simp only [ev] at q
    split at q
    · rename_i i S1 ea
      split at q
      · rename_i j S2 eb
        split at q
        · rename_i hb
          cases q
          cases hi
          rw [Bool.and_eq_true, Bool.and_eq_true, Bool.and_eq_true, decide_eq_true_eq, decide_eq_true_eq, decide_eq_true_eq, decide_eq_true_eq] at hb
          refine ⟨ρ, S, μ, [.int i, .int j], S', g, r, by simp only [evs, ea, eb], fun vs μ1 H1 g1 e1 rv => ?_⟩
          obtain ⟨v, ws, rfl, hv, hw⟩ := rv
          obtain ⟨w, rfl, hw2⟩ := reps1 hw
          cases (show v = V.int i from hv)
          cases (show w = V.int j from hw2)
          exact ⟨i, j, rfl, ⟨hb.1.1.1, hb.1.1.2, hb.1.2, hb.2⟩, k _ μ1 H1 g1 e1 walk_rng⟩
        · cases q
      · cases q
    · cases q
/-- zip of two lists of one length -/
theorem walk_zip {K : PySem.W.Frag} {S : Sto} {μ : Mu} {H : Hp} {a b : Addr} {vs ws : List V} {xs ys : List D} (g : Good K S μ H) (q : (Rd H a (.lst vs) ∧ ¬ Live S μ a) ∨ KL K a vs) (r : Reps K S μ H xs vs) (q2 : (Rd H b (.lst ws) ∧ ¬ Live S μ b) ∨ KL K b ws) (r2 : Reps K S μ H ys ws)
    (hl : xs.length = ys.length) : Walk K S μ H (Itz K a b) ((xs.zip ys).map fun p => .tup [p.1, p.2]) := fun S' μ' H' g' e' => by
  have lst : ∀ {c : Addr} {us : List V}, (Rd H c (.lst us) ∧ ¬ Live S μ c) ∨ KL K c us → SqL K H' c us := fun q => by
    rcases q with q | q
    · exact .inl (rdL e' q.1 q.2).1
    · exact SqP.l (.inr q)
  have qa := lst q
  have qb := lst q2
  have ra := r.mono g e'
  have rb := r2.mono g e'
  have hz : ((xs.zip ys).map fun p => D.tup [p.1, p.2]).length = xs.length := by rw [List.length_map, List.length_zip]; omega
  refine ⟨fun i hi => ?_, ⟨vs, ws, qa, qb, .inl (by rw [hz, r.length]; exact Nat.le_refl _)⟩, fun i v H2 hi y => ?_⟩
  · rw [hz] at hi
    obtain ⟨v, hv, _⟩ := r.get (List.getElem?_eq_getElem hi)
    obtain ⟨w, hw, _⟩ := r2.get (List.getElem?_eq_getElem (show i < ys.length by omega))
    exact ⟨vs, ws, v, w, qa, qb, hv, hw⟩
  · rw [hz] at hi
    obtain ⟨T, x, y', rfl, hT, rfl, h1, h2⟩ := y
    have hi2 : i < ys.length := by omega
    obtain ⟨v, hv, rv⟩ := ra.get (List.getElem?_eq_getElem hi)
    obtain ⟨w, hw, rw'⟩ := rb.get (List.getElem?_eq_getElem hi2)
    have e1 := h1 vs qa
    have e2 := h2 ws qb
    rw [hv] at e1; cases e1
    rw [hw] at e2; cases e2
    refine ⟨.tup [xs[i], ys[i]], ?_, good_new g' hT, evo_new g' hT, rep_tup_new g' hT ⟨_, _, rfl, rv, _, _, rfl, rw', rfl⟩⟩
    rw [List.getElem?_map, List.getElem?_eq_getElem (by rw [List.length_zip]; omega), List.getElem_zip]
    rfl
theorem it_zip {elts : List Expr} {kk : Nat} {p tpos : Pos} (hg : Gl X "zip") (hm : X.mg "zip" = none) (ha : PE X a (tE X.K F ia)) (hb : PE X b (tE X.K F ib)) (hs : starEach [a, b] X.env = (false, eval a X.env) :: starEach [b] X.env := by rfl) (hs2 : starEach [b] X.env = (false, eval b X.env) :: starEach [] X.env := by rfl)
    (hpl : (backTo pos (starEach [b] X.env)).any (·.1) = false := by rfl) : PI X (.Tuple elts kk tpos) (.Call (.Name "zip" p) [a, b] [] pos) (tI X.K F (.zip ia ib)) :=
  PI.weak (pi_zip hg hm (a_cons ha (a_cons hb a_nil hs2) hs) hs hpl) fun σ H R ⟨ρ, S, μ, d, S', xs, g, r, q, hi, k⟩ => by
    simp only [ev] at q
    split at q
    · rename_i as S1 ea
      split at q
      · rename_i bs S2 eb
        split at q
        · rename_i hl
          cases q
          cases hi
          refine ⟨ρ, S, μ, [.lst as, .lst bs], S', g, r, by simp only [evs, ea, eb], fun vs μ1 H1 g1 e1 rv => ?_⟩
          obtain ⟨v, ws, rfl, hv, hw⟩ := rv
          obtain ⟨w, rfl, hw2⟩ := reps1 hw
          obtain ⟨p1, vs, rfl, qa, ra⟩ := hv
          obtain ⟨p2, ws, rfl, qb, rb⟩ := hw2
          exact ⟨p1, p2, vs, ws, rfl, SqP.l (qa.elim (fun z => .inl z.1) .inr), SqP.l (qb.elim (fun z => .inl z.1) .inr), k _ μ1 H1 g1 e1 (walk_zip g1 qa ra qb rb hl)⟩
        · cases q
      · cases q
    · cases q
theorem walk_zipT {K : PySem.W.Frag} {S : Sto} {μ : Mu} {H : Hp} {a b : Addr} {vs ws : List V} {xs ys : List D} (g : Good K S μ H) (q : SqT K H a vs) (r : Reps K S μ H xs vs) (q2 : (Rd H b (.lst ws) ∧ ¬ Live S μ b) ∨ KL K b ws) (r2 : Reps K S μ H ys ws)
    (hl : xs.length = ys.length) : Walk K S μ H (ItM K a b) ((xs.zip ys).map fun p => .tup [p.1, p.2]) := fun S' μ' H' g' e' => by
  have qa : SqT K H' a vs := sqT_mono g e' q
  have qb : SqL K H' b ws := by
    rcases q2 with q | q
    · exact .inl (rdL e' q.1 q.2).1
    · exact SqP.l (.inr q)
  have ra := r.mono g e'
  have rb := r2.mono g e'
  have hz : ((xs.zip ys).map fun p => D.tup [p.1, p.2]).length = xs.length := by rw [List.length_map, List.length_zip]; omega
  have lv := r.length
  have lw := r2.length
  refine ⟨fun i hi => ?_, ⟨vs, ws, qa, qb, by omega, by omega, .inl (by omega)⟩, fun i v H2 hi y => ?_⟩
  · rw [hz] at hi
    obtain ⟨v, hv, _⟩ := r.get (List.getElem?_eq_getElem hi)
    obtain ⟨w, hw, _⟩ := r2.get (List.getElem?_eq_getElem (show i < ys.length by omega))
    exact ⟨vs, ws, v, w, qa, qb, hv, hw⟩
  · rw [hz] at hi
    obtain ⟨T, x, y', rfl, hT, rfl, h1, h2⟩ := y
    have hi2 : i < ys.length := by omega
    obtain ⟨v, hv, rv⟩ := ra.get (List.getElem?_eq_getElem hi)
    obtain ⟨w, hw, rw'⟩ := rb.get (List.getElem?_eq_getElem hi2)
    have e1 := h1 vs qa
    have e2 := h2 ws qb
    rw [hv] at e1; cases e1
    rw [hw] at e2; cases e2
    refine ⟨.tup [xs[i], ys[i]], ?_, good_new g' hT, evo_new g' hT, rep_tup_new g' hT ⟨_, _, rfl, rv, _, _, rfl, rw', rfl⟩⟩
    rw [List.getElem?_map, List.getElem?_eq_getElem (by rw [List.length_zip]; omega), List.getElem_zip]
    rfl
theorem it_zipT {elts : List Expr} {kk : Nat} {p tpos : Pos} (hg : Gl X "zip") (hm : X.mg "zip" = none) (ha : PE X a (tE X.K F ia)) (hb : PE X b (tE X.K F ib)) (hs : starEach [a, b] X.env = (false, eval a X.env) :: starEach [b] X.env := by rfl) (hs2 : starEach [b] X.env = (false, eval b X.env) :: starEach [] X.env := by rfl)
    (hpl : (backTo pos (starEach [b] X.env)).any (·.1) = false := by rfl) : PI X (.Tuple elts kk tpos) (.Call (.Name "zip" p) [a, b] [] pos) (tI X.K F (.zipT ia ib)) :=
  PI.weak (pi_zipM hg hm (a_cons ha (a_cons hb a_nil hs2) hs) hs hpl) fun σ H R ⟨ρ, S, μ, d, S', xs, g, r, q, hi, k⟩ => by
    simp only [ev] at q
    split at q
    · rename_i as S1 ea
      split at q
      · rename_i bs S2 eb
        split at q
        · rename_i hl
          cases q
          cases hi
          refine ⟨ρ, S, μ, [.tup as, .lst bs], S', g, r, by simp only [evs, ea, eb], fun vs μ1 H1 g1 e1 rv => ?_⟩
          obtain ⟨v, ws, rfl, hv, hw⟩ := rv
          obtain ⟨w, rfl, hw2⟩ := reps1 hw
          obtain ⟨p1, vs, rfl, qa, ra⟩ := hv
          obtain ⟨p2, ws, rfl, qb, rb⟩ := hw2
          exact ⟨p1, p2, vs, ws, rfl, qa, SqP.l (qb.elim (fun z => .inl z.1) .inr), k _ μ1 H1 g1 e1 (walk_zipT g1 qa ra qb rb hl)⟩
        · cases q
      · cases q
    · cases q
theorem walk_enum {K : PySem.W.Frag} {S : Sto} {μ : Mu} {H : Hp} {a : Addr} {vs : List V} {xs : List D} (g : Good K S μ H) (q : (Rd H a (.lst vs) ∧ ¬ Live S μ a) ∨ KL K a vs) (r : Reps K S μ H xs vs) :
    Walk K S μ H (Ite K a) (((List.range xs.length).zip xs).map fun p => .tup [.int (p.1 : Nat), p.2]) := fun S' μ' H' g' e' => by
  have qa : SqL K H' a vs := by
    rcases q with q | q
    · exact .inl (rdL e' q.1 q.2).1
    · exact SqP.l (.inr q)
  have ra := r.mono g e'
  have hz : (((List.range xs.length).zip xs).map fun p => D.tup [.int (p.1 : Nat), p.2]).length = xs.length := by rw [List.length_map, List.length_zip, List.length_range]; omega
  refine ⟨fun i hi => ?_, ⟨vs, qa, by rw [hz, r.length]; exact Nat.le_refl _⟩, fun i v H2 hi y => ?_⟩
  · rw [hz] at hi
    obtain ⟨v, hv, _⟩ := r.get (List.getElem?_eq_getElem hi)
    exact ⟨vs, v, qa, hv⟩
  · rw [hz] at hi
    obtain ⟨T, x, rfl, hT, rfl, h1⟩ := y
    obtain ⟨v, hv, rv⟩ := ra.get (List.getElem?_eq_getElem hi)
    have e1 := h1 vs qa
    rw [hv] at e1; cases e1
    refine ⟨.tup [.int i, xs[i]], ?_, good_new g' hT, evo_new g' hT, rep_tup_new g' hT ⟨_, _, rfl, rfl, _, _, rfl, rv, rfl⟩⟩
    rw [List.getElem?_map, List.getElem?_eq_getElem (by rw [List.length_zip, List.length_range]; omega), List.getElem_zip, List.getElem_range]
    rfl
theorem it_enum {elts : List Expr} {kk : Nat} {p tpos : Pos} (hg : Gl X "enumerate") (hm : X.mg "enumerate" = none) (ha : PE X a (tE X.K F ia)) (hs : starEach [a] X.env = [(false, eval a X.env)] := by rfl) :
    PI X (.Tuple elts kk tpos) (.Call (.Name "enumerate" p) [a] [] pos) (tI X.K F (.enum ia)) :=
  PI.weak (pi_enum hg hm (a_cons ha a_nil hs) hs) fun σ H R ⟨ρ, S, μ, d, S', xs, g, r, q, hi, k⟩ => by
    simp only [ev] at q
    split at q
    · rename_i as S1 ea
      cases q
      cases hi
      refine ⟨ρ, S, μ, [.lst as], S', g, r, by simp only [evs, ea], fun vs μ1 H1 g1 e1 rv => ?_⟩
      obtain ⟨v, rfl, hv⟩ := reps1 rv
      obtain ⟨p1, vs, rfl, qa, ra⟩ := hv
      exact ⟨p1, vs, rfl, SqP.l (qa.elim (fun z => .inl z.1) .inr), k _ μ1 H1 g1 e1 (walk_enum g1 qa ra)⟩
    · cases q

theorem wipe_get {σ : L2.St} {j : Nat} : ∀ {vs : List Nat}, (wipe σ vs)[j]? = if j ∈ vs ∧ j < σ.length then some none else σ[j]?
  | [] => by simp [wipe]
  | v :: vs => by
    unfold wipe
    have ih := wipe_get (σ := σ) (j := j) (vs := vs)
    have hl := wipe_length σ vs
    by_cases hj : v = j
    · subst hj
      by_cases lt : v < σ.length
      · rw [List.getElem?_set_self (by rw [hl]; exact lt), if_pos ⟨List.mem_cons_self, lt⟩]
      · rw [List.getElem?_eq_none (by rw [List.length_set, hl]; omega), if_neg fun z => lt z.2, List.getElem?_eq_none (by omega)]
    · rw [List.getElem?_set_ne hj, ih]
      have : (j ∈ v :: vs ∧ j < σ.length) ↔ (j ∈ vs ∧ j < σ.length) := by
        rw [List.mem_cons]
        exact ⟨fun z => ⟨z.1.resolve_left fun q => hj q.symm, z.2⟩, fun z => ⟨.inr z.1, z.2⟩⟩
      simp only [this]
theorem wipe_eq {σ σ' : L2.St} {vs : List Nat} (hl : σ'.length = σ.length) (h : ∀ j, j ∉ vs → σ'[j]? = (wipe σ vs)[j]?) : wipe σ' vs = wipe σ vs := by
  apply List.ext_getElem?
  intro j
  rw [wipe_get, wipe_get, hl]
  by_cases c : j ∈ vs ∧ j < σ.length
  · rw [if_pos c, if_pos c]
  · rw [if_neg c, if_neg c]
    by_cases hj : j ∈ vs
    · have : ¬ j < σ.length := fun z => c ⟨hj, z⟩
      rw [List.getElem?_eq_none (by omega), List.getElem?_eq_none (by omega)]
    · rw [h j hj, wipe_get, if_neg fun z => hj z.1]
theorem rels_wipe {K : PySem.W.Frag} {S : Sto} {μ : Mu} {H : Hp} {ρ : Env} {σ : L2.St} : ∀ {t : Tg}, RelS K S μ H ρ σ → RelS K S μ H (wipeT t ρ) (wipe σ (slotsT t))
  | .n i, r => r.drop i
  | .t is, r => by
    show RelS K S μ H (is.foldr (fun i r => r.set i none) ρ) (wipe σ is)
    induction is with
    | nil => exact r
    | cons i is ih => exact ih.drop i
/-- one turn of a comprehension, by values -/
def StepOk (K : PySem.W.Frag) (ρ : Env) (t : Tg) (tt : TT) (te : TE) (f : D → Sto → Option (Option D × Sto)) : Prop := ∀ d S S' o, f d S = some (o, S') → ∃ ρ', setT t d (wipeT t ρ) = some ρ' ∧
  ∀ μ H σ2 (Y : V → Hp → Prop) (N : Hp → Prop), Good K S μ H → RelS K S μ H ρ' σ2 →
    (∀ μ' H', Good K S' μ' H' → Evo S μ H S' μ' H' → match o with | some y => ∀ v, Rep K S' μ' H' y v → Y v H' | none => N H') → tt σ2 H fun b H3 => if b = true then te σ2 H3 Y else N H3
theorem comp_read {K : PySem.W.Frag} {t : Tg} {tt : TT} {te : TE} {mt : Bool} {f : D → Sto → Option (Option D × Sto)} {σ : L2.St} {H : Hp} {Q : VK} {ρ : Env} {S S1 S2 S' : Sto} {μ : Mu} {x d : D} {xs ys : List D} (g : Good K S μ H) (r : RelS K S μ H ρ σ) (ea : ev F ia ρ S = some (x, S1)) (hx : items x = some xs)
    (hf : StepOk K ρ t tt te f) (er : compRun f xs [] S1 = some (ys, S2)) (em : mkList mt ys S2 = some (d, S')) (k : ContS K S μ H S' d Q) : tLc (tI K F ia) (gT K t) tt te (slotsT t) σ H Q := by
  refine ⟨ρ, S, μ, x, S1, xs, g, r, ea, hx, fun J μ1 H1 g1 e1 W L hD => ?_⟩
  have nD : L ∉ μ1.z := fun z => by
    obtain ⟨ws, q⟩ := g1.zl L z
    rw [hD] at q; cases q
  refine ⟨fun i m H2 => m = xs.length - i ∧ i ≤ xs.length ∧ ∃ (acc : List D) (vs : List V) (S2' : Sto) (μ2 : Mu), H2 L = some (.lst vs) ∧ μ2.z = L :: μ1.z ∧ Good K S2' μ2 H2 ∧ EvoW S1 μ1 H1 S2' μ2 H2 ∧ (∀ a ∈ μ1.z, ∀ o, H1 a = some o → H2 a = some o) ∧
      Reps K S2' μ2 H2 acc vs ∧ acc.length ≤ 100000 ∧ compRun f (xs.drop i) acc S2' = some (ys, S2),
    ⟨xs.length, by simp, Nat.zero_le _, [], [], S1, μ1.hold L, upd_same, rfl, good_begin g1 hD, evoW_begin g1 hD, fun a ha o q => by rw [upd_ne (ne_of_none q hD)]; exact q, rfl, by simp, er⟩, ?_⟩
  rintro i m H2 ⟨rfl, hi, acc, vs, S3, μ3, hL, hz, g3, e3, hh, ra, hal, ec⟩
  have hDz : L ∈ μ3.z := by rw [hz]; exact List.mem_cons_self
  obtain ⟨go, stop, yl⟩ := W S3 μ3 H2 g3 e3
  by_cases hlt : i < xs.length
  · refine .inr ⟨go i hlt, _, fun H' h' => ⟨xs.length - (i + 1), by omega, h'⟩, fun v H4 hy => ?_⟩
    obtain ⟨dd, hdd, g4, e4, r4⟩ := yl i v H4 hlt hy
    have edrop : xs.drop i = dd :: xs.drop (i + 1) := by
      rw [List.drop_eq_getElem_cons hlt]
      rw [List.getElem?_eq_getElem hlt] at hdd
      cases hdd
      rfl
    rw [edrop] at ec
    unfold compRun at ec
    -- the turn
    have base : RelS K S3 μ3 H4 ρ σ := ((r.mono g e1.w).mono g1 e3).mono g3 e4.w
    have turn : ∀ o S5, f dd S3 = some (o, S5) → (match o with | none => compRun f (xs.drop (i + 1)) acc S5 = some (ys, S2) | some y => small (acc.length + 1) = true ∧ compRun f (xs.drop (i + 1)) (acc ++ [y]) S5 = some (ys, S2)) →
        gT K t v (wipe σ (slotsT t)) H4 fun σ2 H5 => wipe σ2 (slotsT t) = wipe σ (slotsT t) ∧ tt σ2 H5 fun b H6 => if b = true then te σ2 H6 fun y H7 => ∃ acc, H7 L = some (.lst acc) ∧ acc.length < sizeLine ∧ (xs.length - (i + 1) = xs.length - (i + 1) ∧ i + 1 ≤ xs.length ∧ ∃ (acc' : List D) (vs : List V) (S2' : Sto) (μ2 : Mu), (upd H7 L (.lst (acc ++ [y]))) L = some (.lst vs) ∧ μ2.z = L :: μ1.z ∧ Good K S2' μ2 (upd H7 L (.lst (acc ++ [y]))) ∧ EvoW S1 μ1 H1 S2' μ2 (upd H7 L (.lst (acc ++ [y]))) ∧ (∀ a ∈ μ1.z, ∀ o, H1 a = some o → (upd H7 L (.lst (acc ++ [y]))) a = some o) ∧
      Reps K S2' μ2 (upd H7 L (.lst (acc ++ [y]))) acc' vs ∧ acc'.length ≤ 100000 ∧ compRun f (xs.drop (i + 1)) acc' S2' = some (ys, S2)) else (xs.length - (i + 1) = xs.length - (i + 1) ∧ i + 1 ≤ xs.length ∧ ∃ (acc : List D) (vs : List V) (S2' : Sto) (μ2 : Mu), H6 L = some (.lst vs) ∧ μ2.z = L :: μ1.z ∧ Good K S2' μ2 H6 ∧ EvoW S1 μ1 H1 S2' μ2 H6 ∧ (∀ a ∈ μ1.z, ∀ o, H1 a = some o → H6 a = some o) ∧
      Reps K S2' μ2 H6 acc vs ∧ acc.length ≤ 100000 ∧ compRun f (xs.drop (i + 1)) acc S2' = some (ys, S2)) := by
      intro o S5 ef hrest
      obtain ⟨ρ', st, fin⟩ := hf dd S3 S5 o ef
      refine ⟨dd, _, ρ', S3, μ3, g4, rels_wipe base, r4, st, fun σ2 r2 l2 n2 => ⟨wipe_eq (by rw [l2, wipe_length]) n2, ?_⟩⟩
      refine fin μ3 H4 σ2 _ _ g4 r2 fun μ5 H5 g5 e5 => ?_
      have e45 := e4.trans e5
      have hz5 : μ5.z = L :: μ1.z := by rw [e45.z, hz]
      have hL5 : H5 L = some (.lst vs) := e45.hold L _ hDz hL
      have hh5 : ∀ a ∈ μ1.z, ∀ o, H1 a = some o → H5 a = some o := fun a ha o q => e45.hold a _ (by rw [hz]; exact List.mem_cons_of_mem _ ha) (hh a ha o q)
      cases o with
      | none => exact ⟨rfl, hlt, acc, vs, S5, μ5, hL5, hz5, g5, e3.trans e45.w, hh5, ra.mono g3 e45.w, hal, hrest⟩
      | some y =>
        intro w rw'
        have hD5 : L ∈ μ5.z := by rw [hz5]; exact List.mem_cons_self
        have eg := evoW_grow (S := S5) (H := H5) (o := .lst (vs ++ [w])) hD5
        have rv := ra.mono g3 e45.w
        refine ⟨vs, hL5, by rw [← rv.length, sizeLine_eq]; omega, rfl, hlt, acc ++ [y], vs ++ [w], S5, μ5, upd_same, hz5, good_grow g5 hD5, (e3.trans e45.w).trans eg, fun a ha o q => ?_, (rv.mono g5 eg).append ⟨w, [], rfl, rw'.mono g5 eg, rfl⟩, ?_, hrest.2⟩
        · rw [upd_ne fun z => nD (by rw [← z]; exact ha)]
          exact hh5 a ha o q
        · have := small_le hrest.1
          rw [List.length_append]
          exact this
    split at ec
    · cases ec
    · rename_i S5 ef
      exact turn none S5 ef ec
    · rename_i y S5 ef
      split at ec
      · rename_i hsm
        exact turn (some y) S5 ef ⟨hsm, ec⟩
      · cases ec
  · have hi' : i = xs.length := by omega
    subst hi'
    refine .inl ⟨stop, ?_⟩
    rw [List.drop_length] at ec
    unfold compRun at ec
    cases ec
    obtain ⟨ps, zz⟩ := μ3
    have hz' : zz = L :: μ1.z := hz
    subst hz'
    have hold2 : ∀ a o, a ∈ μ.z → H a = some o → H2 a = some o := fun a o ha q => hh a (by rw [e1.z]; exact ha) o (e1.hold a o ha q)
    unfold mkList at em
    cases mt with
    | false =>
      rw [if_neg Bool.false_ne_true] at em
      cases em
      have ge : Good K S2 ⟨ps, μ1.z⟩ H2 := good_end (p := L) g3
      have ee : EvoW S2 ⟨ps, L :: μ1.z⟩ H2 S2 ⟨ps, μ1.z⟩ H2 := evoW_end (μ := ⟨ps, μ1.z⟩) (p := L)
      refine k (.ref L) ⟨ps, μ1.z⟩ H2 ge ⟨(e1.w.trans e3).trans ee, e1.z, hold2⟩ ⟨L, vs, rfl, .inl ⟨.inl hL, fun l => ?_⟩, ra.mono g3 ee⟩
      rcases l with l | l
      · exact g3.zn L List.mem_cons_self l
      · exact nD l
    | true =>
      rw [if_pos rfl] at em
      cases em
      obtain ⟨ge, ee⟩ := good_place (μ := ⟨ps, μ1.z⟩) (p := L) g3 nD hL ra
      exact k (.ref L) _ H2 ge ⟨(e1.w.trans e3).trans ee, e1.z, hold2⟩ ⟨L, rfl, get_last (l := ps) (x := L) g3.len⟩

/-- the comprehension's readings -/
theorem step_plain {K : PySem.W.Frag} {ρ : Env} {t : Tg} : StepOk K ρ t tYes (tE K F ie) (fun d S => match setT t d (wipeT t ρ) with
    | none => none
    | some ρ' => match ev F ie ρ' S with
      | none => none
      | some (y, S') => some (some y, S')) := by
  intro d S S' o h
  simp only at h
  split at h
  · cases h
  · rename_i ρ' st
    split at h
    · cases h
    · rename_i y S1 ee
      cases h
      exact ⟨ρ', st, fun μ H σ2 Y N g r k => by
        show (if true = true then tE K F ie σ2 H Y else N H)
        rw [if_pos rfl]
        exact ⟨ρ', S, μ, y, _, g, r, ee, fun v μ' H' g' e' rv => k μ' H' g' e' v rv⟩⟩
theorem step_if {K : PySem.W.Frag} {ρ : Env} {t : Tg} : StepOk K ρ t (tT K F ic) (tE K F ie) (fun d S => match setT t d (wipeT t ρ) with
    | none => none
    | some ρ' => match ev F ic ρ' S with
      | some (.bl true, S1) => (match ev F ie ρ' S1 with
        | none => none
        | some (y, S') => some (some y, S'))
      | some (.bl false, S1) => some (none, S1)
      | _ => none) := by
  intro d S S' o h
  simp only at h
  split at h
  · cases h
  · rename_i ρ' st
    split at h
    · rename_i S1 ec
      split at h
      · cases h
      · rename_i y S2 ee
        cases h
        exact ⟨ρ', st, fun μ H σ2 Y N g r k => ⟨ρ', S, μ, true, S1, g, r, ec, fun μ1 H1 g1 e1 => by
          show (if true = true then _ else _)
          rw [if_pos rfl]
          exact ⟨ρ', S1, μ1, y, _, g1, r.mono g e1.w, ee, fun v μ' H' g' e' rv => k μ' H' g' (e1.trans e') v rv⟩⟩⟩
    · rename_i S1 ec
      cases h
      exact ⟨ρ', st, fun μ H σ2 Y N g r k => ⟨ρ', S, μ, false, _, g, r, ec, fun μ1 H1 g1 e1 => by
        show (if false = true then _ else _)
        rw [if_neg Bool.false_ne_true]
        exact k μ1 H1 g1 e1⟩⟩
    · cases h
theorem lc_plain {K : PySem.W.Frag} {mt : Bool} {t : Tg} {σ : L2.St} {H : Hp} {Q : VK} (h : tE K F (.comp mt t ia ie) σ H Q) : tLc (tI K F ia) (gT K t) tYes (tE K F ie) (slotsT t) σ H Q := by
  obtain ⟨ρ, S, μ, d, S', g, r, q, k⟩ := h
  simp only [ev] at q
  split at q
  · cases q
  · rename_i x S1 ea
    split at q
    · cases q
    · rename_i xs hx
      split at q
      · cases q
      · rename_i ys S2 er
        exact comp_read g r ea hx step_plain er q k
theorem lc_if {K : PySem.W.Frag} {mt : Bool} {t : Tg} {σ : L2.St} {H : Hp} {Q : VK} (h : tE K F (.compI mt t ia ic ie) σ H Q) : tLc (tI K F ia) (gT K t) (tT K F ic) (tE K F ie) (slotsT t) σ H Q := by
  obtain ⟨ρ, S, μ, d, S', g, r, q, k⟩ := h
  simp only [ev] at q
  split at q
  · cases q
  · rename_i x S1 ea
    split at q
    · cases q
    · rename_i xs hx
      split at q
      · cases q
      · rename_i ys S2 er
        exact comp_read g r ea hx step_if er q k

theorem wipe_app (σ : L2.St) (b : List Nat) : ∀ a : List Nat, wipe σ (a ++ b) = wipe (wipe σ b) a
  | [] => rfl
  | x :: a => by
    show (wipe σ (a ++ b)).set x none = (wipe (wipe σ b) a).set x none
    rw [wipe_app σ b a]
/-- a turn's inner items and what is done with each -/
def g2F (F : CF) (t t2 : Tg) (ib ie : E) (ρ : Env) (d : D) (S : Sto) : Option (List D × (D → Sto → Option (Option D × Sto)) × Sto) := match setT t d (wipeT t (wipeT t2 ρ)) with
  | none => none
  | some ρ' => match ev F ib ρ' S with
    | none => none
    | some (y, S') => match items y with
      | none => none
      | some ys => some (ys, (fun e S => match setT t2 e (wipeT t2 ρ') with
        | none => none
        | some ρ2 => match ev F ie ρ2 S with
          | none => none
          | some (z, S') => some (some z, S')), S')
/-- the list at L that is being made -/
def Mk2 (K : PySem.W.Frag) (S1 : Sto) (μ1 : Mu) (H1 : Hp) (L : Addr) (acc : List D) (vs : List V) (S2 : Sto) (μ2 : Mu) (H2 : Hp) : Prop :=
  H2 L = some (.lst vs) ∧ μ2.z = L :: μ1.z ∧ Good K S2 μ2 H2 ∧ EvoW S1 μ1 H1 S2 μ2 H2 ∧ (∀ a ∈ μ1.z, ∀ o, H1 a = some o → H2 a = some o) ∧ Reps K S2 μ2 H2 acc vs ∧ acc.length ≤ 100000
theorem Mk2.step {K : PySem.W.Frag} {S1 S2 S3 : Sto} {μ1 μ2 μ3 : Mu} {H1 H2 H3 : Hp} {L : Addr} {acc : List D} {vs : List V} (m : Mk2 K S1 μ1 H1 L acc vs S2 μ2 H2) (g : Good K S3 μ3 H3) (e : Evo S2 μ2 H2 S3 μ3 H3) : Mk2 K S1 μ1 H1 L acc vs S3 μ3 H3 := by
  obtain ⟨hL, hz, g2, e2, hh, ra, hal⟩ := m
  exact ⟨e.hold L _ (by rw [hz]; exact List.mem_cons_self) hL, by rw [e.z, hz], g, e2.trans e.w, fun a ha o q => e.hold a _ (by rw [hz]; exact List.mem_cons_of_mem _ ha) (hh a ha o q), ra.mono g2 e.w, hal⟩
theorem Mk2.grow {K : PySem.W.Frag} {S1 S2 : Sto} {μ1 μ2 : Mu} {H1 H2 : Hp} {L : Addr} {acc : List D} {vs : List V} {y : D} {w : V} (nD : L ∉ μ1.z) (m : Mk2 K S1 μ1 H1 L acc vs S2 μ2 H2) (r : Rep K S2 μ2 H2 y w) (sm : small (acc.length + 1) = true) :
    Mk2 K S1 μ1 H1 L (acc ++ [y]) (vs ++ [w]) S2 μ2 (upd H2 L (.lst (vs ++ [w]))) := by
  obtain ⟨hL, hz, g2, e2, hh, ra, hal⟩ := m
  have hD5 : L ∈ μ2.z := by rw [hz]; exact List.mem_cons_self
  have eg := evoW_grow (S := S2) (H := H2) (o := .lst (vs ++ [w])) hD5
  refine ⟨upd_same, hz, good_grow g2 hD5, e2.trans eg, fun a ha o q => ?_, (ra.mono g2 eg).append ⟨w, [], rfl, r.mono g2 eg, rfl⟩, ?_⟩
  · rw [upd_ne fun z => nD (by rw [← z]; exact ha)]
    exact hh a ha o q
  · have := small_le sm
    rw [List.length_append]
    exact this
theorem yes_turn {σ : L2.St} {H : Hp} {A B : Hp → Prop} (h : A H) : tYes σ H (fun b H => if b = true then A H else B H) := by
  show (if true = true then A H else B H)
  rw [if_pos rfl]
  exact h
theorem comp2_read {K : PySem.W.Frag} {t t2 : Tg} {mt : Bool} {σ : L2.St} {H : Hp} {Q : VK} {ρ : Env} {S S1 S2 S' : Sto} {μ : Mu} {x d : D} {xs ys : List D} (g : Good K S μ H) (r : RelS K S μ H ρ σ) (ea : ev F ia ρ S = some (x, S1)) (hx : items x = some xs)
    (er : comp2Run (g2F F t t2 ib ie ρ) xs [] S1 = some (ys, S2)) (em : mkList mt ys S2 = some (d, S')) (k : ContS K S μ H S' d Q) : tLc2 (tI K F ia) (gT K t) tYes (tI K F ib) (gT K t2) tYes (tE K F ie) (slotsT t ++ slotsT t2) (slotsT t2) σ H Q := by
  refine ⟨ρ, S, μ, x, S1, xs, g, r, ea, hx, fun J μ1 H1 g1 e1 W L hD => ?_⟩
  have nD : L ∉ μ1.z := fun z => by
    obtain ⟨ws, q⟩ := g1.zl L z
    rw [hD] at q; cases q
  refine ⟨fun i m H2 => m = xs.length - i ∧ i ≤ xs.length ∧ ∃ (acc : List D) (vs : List V) (S2' : Sto) (μ2 : Mu), Mk2 K S1 μ1 H1 L acc vs S2' μ2 H2 ∧ comp2Run (g2F F t t2 ib ie ρ) (xs.drop i) acc S2' = some (ys, S2),
    ⟨xs.length, by simp, Nat.zero_le _, [], [], S1, μ1.hold L, ⟨upd_same, rfl, good_begin g1 hD, evoW_begin g1 hD, fun a ha o q => by rw [upd_ne (ne_of_none q hD)]; exact q, rfl, by simp⟩, er⟩, ?_⟩
  rintro i m H2 ⟨rfl, hi, acc, vs, S3, μ3, M3, ec⟩
  obtain ⟨hL, hz, g3, e3, hh, ra, hal⟩ := id M3
  obtain ⟨go, stop, yl⟩ := W S3 μ3 H2 g3 e3
  by_cases hlt : i < xs.length
  · refine .inr ⟨go i hlt, fun H' => (xs.length - (i + 1) = xs.length - (i + 1) ∧ i + 1 ≤ xs.length ∧ ∃ (acc : List D) (vs : List V) (S2' : Sto) (μ2 : Mu), Mk2 K S1 μ1 H1 L acc vs S2' μ2 H' ∧ comp2Run (g2F F t t2 ib ie ρ) (xs.drop (i + 1)) acc S2' = some (ys, S2)), fun H' h' => ⟨xs.length - (i + 1), by omega, h'⟩, fun v H4 hy => ?_⟩
    obtain ⟨dd, hdd, g4, e4, r4⟩ := yl i v H4 hlt hy
    have edrop : xs.drop i = dd :: xs.drop (i + 1) := by
      rw [List.drop_eq_getElem_cons hlt]
      rw [List.getElem?_eq_getElem hlt] at hdd
      cases hdd
      rfl
    rw [edrop] at ec
    unfold comp2Run at ec
    have base : RelS K S3 μ3 H4 ρ σ := ((r.mono g e1.w).mono g1 e3).mono g3 e4.w
    have M4 := M3.step g4 e4
    split at ec
    · cases ec
    · rename_i yl2 f S5 eg
      split at ec
      · cases ec
      · rename_i acc2 S7 eI
        unfold g2F at eg
        split at eg
        · cases eg
        · rename_i ρ' st
          split at eg
          · cases eg
          · rename_i y S6 eb
            split at eg
            · cases eg
            · rename_i yl3 hy3
              cases eg
              have rw0 : RelS K S3 μ3 H4 (wipeT t (wipeT t2 ρ)) (wipe σ (slotsT t ++ slotsT t2)) := by
                rw [wipe_app]
                exact rels_wipe (rels_wipe base)
              refine ⟨dd, _, ρ', S3, μ3, g4, rw0, r4, st, fun σ2 r2 l2 n2 => ⟨wipe_eq (by rw [l2, wipe_length]) fun j hj => n2 j fun z => hj (List.mem_append_left _ z), ?_⟩⟩
              refine yes_turn ?_
              refine ⟨ρ', S3, μ3, y, S5, yl2, g4, r2, eb, hy3, fun J1 μ5 H5 g5 e5 W1 => ?_⟩
              have M5 := M4.step g5 e5
              refine ⟨fun j k H6 => k = yl2.length - j ∧ j ≤ yl2.length ∧ ∃ (acc3 : List D) (vs3 : List V) (S6 : Sto) (μ6 : Mu), Mk2 K S1 μ1 H1 L acc3 vs3 S6 μ6 H6 ∧ EvoW S5 μ5 H5 S6 μ6 H6 ∧ compRun (fun e S => match setT t2 e (wipeT t2 ρ') with
        | none => none
        | some ρ2 => match ev F ie ρ2 S with
          | none => none
          | some (z, S') => some (some z, S')) (yl2.drop j) acc3 S6 = some (acc2, S7),
                ⟨yl2.length, by simp, Nat.zero_le _, acc, vs, S5, μ5, M5, EvoW.refl _ _ _, eI⟩, ?_⟩
              rintro j k6 H6 ⟨rfl, hj, acc3, vs3, S6, μ6, M6, e6, ec6⟩
              obtain ⟨go1, stop1, yl1⟩ := W1 S6 μ6 H6 M6.2.2.1 e6
              by_cases hlt1 : j < yl2.length
              · refine .inr ⟨go1 j hlt1, fun H' => (yl2.length - (j + 1) = yl2.length - (j + 1) ∧ j + 1 ≤ yl2.length ∧ ∃ (acc3 : List D) (vs3 : List V) (S6 : Sto) (μ6 : Mu), Mk2 K S1 μ1 H1 L acc3 vs3 S6 μ6 H' ∧ EvoW S5 μ5 H5 S6 μ6 H' ∧ compRun (fun e S => match setT t2 e (wipeT t2 ρ') with
        | none => none
        | some ρ2 => match ev F ie ρ2 S with
          | none => none
          | some (z, S') => some (some z, S')) (yl2.drop (j + 1)) acc3 S6 = some (acc2, S7)), fun H' h' => ⟨yl2.length - (j + 1), by omega, h'⟩, fun v8 H8 hy8 => ?_⟩
                obtain ⟨dd2, hdd2, g8, e8, r8⟩ := yl1 j v8 H8 hlt1 hy8
                have edrop1 : yl2.drop j = dd2 :: yl2.drop (j + 1) := by
                  rw [List.drop_eq_getElem_cons hlt1]
                  rw [List.getElem?_eq_getElem hlt1] at hdd2
                  cases hdd2
                  rfl
                rw [edrop1] at ec6
                unfold compRun at ec6
                have base2 : RelS K S6 μ6 H8 ρ' σ2 := ((r2.mono g4 e5.w).mono g5 e6).mono M6.2.2.1 e8.w
                split at ec6
                · cases ec6
                · rename_i S9 ef
                  split at ef
                  · cases ef
                  · split at ef <;> cases ef
                · rename_i z S9 ef
                  split at ec6
                  · rename_i hsm
                    split at ef
                    · cases ef
                    · rename_i ρ2 st2
                      split at ef
                      · cases ef
                      · rename_i z2 S10 ee
                        cases ef
                        refine ⟨dd2, _, ρ2, S6, μ6, g8, rels_wipe base2, r8, st2, fun σ3 r3 l3 n3 => ⟨wipe_eq (by rw [l3, wipe_length]) n3, ?_⟩⟩
                        refine yes_turn ?_
                        refine ⟨ρ2, S6, μ6, z, S9, g8, r3, ee, fun w9 μ9 H9 g9 e9 rw9 => ?_⟩
                        have M9 := (M6.step g8 e8).step g9 e9
                        refine ⟨vs3, M9.1, by rw [← M9.2.2.2.2.2.1.length, sizeLine_eq]; have := M9.2.2.2.2.2.2; omega, rfl, hlt1, acc3 ++ [z], vs3 ++ [w9], S9, μ9, M9.grow nD rw9 hsm, ?_, ec6⟩
                        have hD9 : L ∈ μ9.z := by rw [M9.2.1]; exact List.mem_cons_self
                        exact ((e6.trans e8.w).trans e9.w).trans (evoW_grow hD9)
                  · cases ec6
              · have hj' : j = yl2.length := by omega
                subst hj'
                rw [List.drop_length] at ec6
                unfold compRun at ec6
                cases ec6
                exact .inl ⟨stop1, rfl, hlt, acc2, vs3, S7, μ6, M6, ec⟩
  · have hi' : i = xs.length := by omega
    subst hi'
    refine .inl ⟨stop, ?_⟩
    rw [List.drop_length] at ec
    unfold comp2Run at ec
    cases ec
    obtain ⟨ps, zz⟩ := μ3
    have hz' : zz = L :: μ1.z := hz
    subst hz'
    have hold2 : ∀ a o, a ∈ μ.z → H a = some o → H2 a = some o := fun a o ha q => hh a (by rw [e1.z]; exact ha) o (e1.hold a o ha q)
    unfold mkList at em
    cases mt with
    | false =>
      rw [if_neg Bool.false_ne_true] at em
      cases em
      have ge : Good K S2 ⟨ps, μ1.z⟩ H2 := good_end (p := L) g3
      have ee : EvoW S2 ⟨ps, L :: μ1.z⟩ H2 S2 ⟨ps, μ1.z⟩ H2 := evoW_end (μ := ⟨ps, μ1.z⟩) (p := L)
      refine k (.ref L) ⟨ps, μ1.z⟩ H2 ge ⟨(e1.w.trans e3).trans ee, e1.z, hold2⟩ ⟨L, vs, rfl, .inl ⟨.inl hL, fun l => ?_⟩, ra.mono g3 ee⟩
      rcases l with l | l
      · exact g3.zn L List.mem_cons_self l
      · exact nD l
    | true =>
      rw [if_pos rfl] at em
      cases em
      obtain ⟨ge, ee⟩ := good_place (μ := ⟨ps, μ1.z⟩) (p := L) g3 nD hL ra
      exact k (.ref L) _ H2 ge ⟨(e1.w.trans e3).trans ee, e1.z, hold2⟩ ⟨L, rfl, get_last (l := ps) (x := L) g3.len⟩
theorem lc_two {K : PySem.W.Frag} {mt : Bool} {t t2 : Tg} {σ : L2.St} {H : Hp} {Q : VK} (h : tE K F (.comp2 mt t ia t2 ib ie) σ H Q) : tLc2 (tI K F ia) (gT K t) tYes (tI K F ib) (gT K t2) tYes (tE K F ie) (slotsT t ++ slotsT t2) (slotsT t2) σ H Q := by
  obtain ⟨ρ, S, μ, d, S', g, r, q, k⟩ := h
  simp only [ev] at q
  split at q
  · cases q
  · rename_i x S1 ea
    split at q
    · cases q
    · rename_i xs hx
      split at q
      · cases q
      · rename_i ys S2 er
        exact comp2_read g r ea hx er q k
/-- the block of a comprehension -/
abbrev Blk (X : Cx) (scope : Scope) (s : Shared) (H : Hp) (C : Addr) (cl : List (Str × Addr)) (fp : List Addr) : Cx := X.blk s H scope (compEnvC scope cl C X.env) fp
theorem cok_blk {scope : Scope} {s : Shared} {H : Hp} {C : Addr} {cl : List (Str × Addr)} {fp : List Addr} (ok : Cok X) : Cok (Blk X scope s H C cl fp) := ⟨ok.nd, ok.calm, ok.gd, ok.un⟩
theorem call_blk {fi ar : Nat} {x : Str} {scope : Scope} {s : Shared} {H : Hp} {C : Addr} {cl : List (Str × Addr)} {fp : List Addr} (h : CallOk X F fi ar x) : CallOk (Blk X scope s H C cl fp) F fi ar x := ⟨h.ar_, h.ex⟩
theorem callK_blk {fi ar n : Nat} {x : Str} {ks : List Str} {pm : List Nat} {scope : Scope} {s : Shared} {H : Hp} {C : Addr} {cl : List (Str × Addr)} {fp : List Addr} (h : CallKOk X F fi ar x n ks pm) : CallKOk (Blk X scope s H C cl fp) F fi ar x n ks pm := ⟨h.ar_, h.ex⟩
theorem i_comp {mt : Bool} {t : Tg} {elt tg iter : Expr} {scope : Scope} {own : List (Str × Nat)} (ok : Cok X) (hs : own.map (·.2) = slotsT t) (hi : PI X tg iter (tI X.K F ia)) (bk : BlkOk X.N X.env.scope scope own)
    (hg : ∀ s H C cl fp, PG (Blk X scope s H C cl fp) tg (gT X.K t)) (he : ∀ s H C cl fp, PE (Blk X scope s H C cl fp) elt (tE X.K F ie)) (hf : ∀ x, foldedSetIterable iter X.env x = pure x := by intro _; rfl) :
    PE X (.ListComp elt [⟨tg, iter, [], 0⟩] scope pos) (tE X.K F (.comp mt t ia ie)) :=
  PE.weak (pe_lc ok.calm ok.nd hi bk hg (fun _ _ _ _ _ => pts_nil) he hf) fun σ H Q h => by rw [hs]; exact lc_plain h
theorem i_compI {mt : Bool} {t : Tg} {elt tg iter c : Expr} {scope : Scope} {own : List (Str × Nat)} (ok : Cok X) (hs : own.map (·.2) = slotsT t) (hi : PI X tg iter (tI X.K F ia)) (bk : BlkOk X.N X.env.scope scope own)
    (hg : ∀ s H C cl fp, PG (Blk X scope s H C cl fp) tg (gT X.K t)) (hc : ∀ s H C cl fp, PT (Blk X scope s H C cl fp) c (tT X.K F ic)) (he : ∀ s H C cl fp, PE (Blk X scope s H C cl fp) elt (tE X.K F ie)) (hf : ∀ x, foldedSetIterable iter X.env x = pure x := by intro _; rfl) :
    PE X (.ListComp elt [⟨tg, iter, [c], 0⟩] scope pos) (tE X.K F (.compI mt t ia ic ie)) :=
  PE.weak (pe_lc ok.calm ok.nd hi bk hg (fun s H C cl fp => pts_one (hc s H C cl fp)) he hf) fun σ H Q h => by rw [hs]; exact lc_if h
theorem i_comp2 {mt : Bool} {t t2 : Tg} {elt tg iter tg2 iter2 : Expr} {scope : Scope} {own : List (Str × Nat)} (ok : Cok X) (hs : own.map (·.2) = slotsT t ++ slotsT t2) (hi : PI X tg iter (tI X.K F ia)) (bk : BlkOk X.N X.env.scope scope own)
    (hg : ∀ s H C cl fp, PG (Blk X scope s H C cl fp) tg (gT X.K t)) (hi2 : ∀ s H C cl fp, PI (Blk X scope s H C cl fp) tg2 iter2 (tI X.K F ib)) (hg2 : ∀ s H C cl fp, PG (Blk X scope s H C cl fp) tg2 (gT X.K t2)) (he : ∀ s H C cl fp, PE (Blk X scope s H C cl fp) elt (tE X.K F ie)) (hf : ∀ x, foldedSetIterable iter X.env x = pure x := by intro _; rfl) (hf2 : ∀ env x, foldedSetIterable iter2 env x = pure x := by intro _ _; rfl) :
    PE X (.ListComp elt [⟨tg, iter, [], 0⟩, ⟨tg2, iter2, [], 0⟩] scope pos) (tE X.K F (.comp2 mt t ia t2 ib ie)) :=
  PE.weak (pe_lc2 ok.calm ok.nd hi bk (vs1 := slotsT t2) (by rw [hs]; exact fun i hi => List.mem_append_right _ hi) hg (fun _ _ _ _ _ => pts_nil) hi2 hg2 (fun _ _ _ _ _ => pts_nil) he hf hf2) fun σ H Q h => by rw [hs]; exact lc_two h
end

section
variable {X : Cx} {F : CF} {w : Nat} {a b c e tg : Expr} {es : List Expr} {ia ib ic ie io : E} {ies : Es} {pos : Pos} {st : Stmt} {sts : List Stmt} {ist : Iv.St} {iss its : Ss}
/-- what holds behind a statement -/
def OutOk (K : PySem.W.Frag) (S : Sto) (μ : Mu) (H : Hp) (D : Ends) (σ : L2.St) (o : Out) (S' : Sto) : Prop := match o with
  | .nx ρ' => ∀ σ' μ' H', Good K S' μ' H' → Evo S μ H S' μ' H' → RelS K S' μ' H' ρ' σ' → D.nx σ' H'
  | .rt d => ∀ v μ' H', Good K S' μ' H' → Evo S μ H S' μ' H' → Rep K S' μ' H' d v → D.rt v H'
  | .bk ρ' => ∀ σ' μ' H', Good K S' μ' H' → Evo S μ H S' μ' H' → RelS K S' μ' H' ρ' σ' → D.bk σ' H'
  | .ct ρ' => ∀ σ' μ' H', Good K S' μ' H' → Evo S μ H S' μ' H' → RelS K S' μ' H' ρ' σ' → D.ct σ' H'
theorem OutOk.trans {K : PySem.W.Frag} {S S1 S' : Sto} {μ μ1 : Mu} {H H1 : Hp} {D : Ends} {σ : L2.St} {o : Out} (e : Evo S μ H S1 μ1 H1) (h : OutOk K S μ H D σ o S') : OutOk K S1 μ1 H1 D σ o S' := by
  cases o with
  | nx ρ => exact fun σ' μ' H' g e' r => h σ' μ' H' g (e.trans e') r
  | rt d => exact fun v μ' H' g e' r => h v μ' H' g (e.trans e') r
  | bk ρ => exact fun σ' μ' H' g e' r => h σ' μ' H' g (e.trans e') r
  | ct ρ => exact fun σ' μ' H' g e' r => h σ' μ' H' g (e.trans e') r
def tS (K : PySem.W.Frag) (F : CF) (w : Nat) (st : Iv.St) : TS := fun D σ H => ∃ (ρ : Env) (S : Sto) (μ : Mu) (o : Out) (S' : Sto), Good K S μ H ∧ RelS K S μ H ρ σ ∧ ex F w st ρ S = some (o, S') ∧ OutOk K S μ H D σ o S'
def tSs (K : PySem.W.Frag) (F : CF) (w : Nat) (ss : Ss) : TS := fun D σ H => ∃ (ρ : Env) (S : Sto) (μ : Mu) (o : Out) (S' : Sto), Good K S μ H ∧ RelS K S μ H ρ σ ∧ exs F w ss ρ S = some (o, S') ∧ OutOk K S μ H D σ o S'
theorem PS.weak {st : Stmt} {t t' : TS} (h : PS X st t) (k : ∀ D σ H, t' D σ H → t D σ H) : PS X st t' := ⟨fun pins s σ H D I q => h.run pins s σ H D I (k D σ H q)⟩
theorem PSs.weak {st : List Stmt} {t t' : TS} (h : PSs X st t) (k : ∀ D σ H, t' D σ H → t D σ H) : PSs X st t' := ⟨fun pins s σ H D I q => h.run pins s σ H D I (k D σ H q)⟩
theorem ss_nil : PSs X [] (tSs X.K F w .nil) := PSs.weak pss_nil fun D σ H ⟨ρ, S, μ, o, S', g, r, q, k⟩ => by
  simp only [exs] at q
  cases q
  exact k σ μ H g (Evo.refl _ _ _) r
theorem ss_cons (h1 : PS X st (tS X.K F w ist)) (h2 : PSs X sts (tSs X.K F w iss)) : PSs X (st :: sts) (tSs X.K F w (.cons ist iss)) := PSs.weak (pss_cons h1 h2) fun D σ H ⟨ρ, S, μ, o, S', g, r, q, k⟩ => by
  simp only [exs] at q
  split at q
  · cases q
  · rename_i ρ1 S1 e1
    exact ⟨ρ, S, μ, .nx ρ1, S1, g, r, e1, fun σ1 μ1 H1 g1 ev1 r1 => ⟨ρ1, S1, μ1, o, S', g1, r1, q, by
      have z := k.trans ev1
      cases o <;> exact z⟩⟩
  · rename_i oo hne e1
    obtain ⟨o1, S1⟩ := oo
    cases q
    refine ⟨ρ, S, μ, o, S', g, r, e1, ?_⟩
    cases o with
    | nx ρ1 => exact absurd rfl (hne ρ1 S')
    | rt d => exact k
    | bk ρ1 => exact k
    | ct ρ1 => exact k
/-- a list that will not change any more is seen as a value -/
theorem ss_frz {i : Nat} (h : PSs X sts (tSs X.K F w iss)) : PSs X sts (tSs X.K F w (.cons (.frz i) iss)) := PSs.weak h fun D σ H ⟨ρ, S, μ, o, S', g, r, q, k⟩ => by
  simp only [exs, ex] at q
  cases h1 : ρ[i]? with
  | none => simp [h1] at q
  | some od =>
    cases od with
    | none => simp [h1] at q
    | some d =>
      cases d with
      | ref j =>
        cases h2 : S[j]? with
        | none => simp [h1, h2] at q
        | some oxs =>
          cases oxs with
          | none => simp [h1, h2] at q
          | some xs =>
            simp only [h1, h2] at q
            cases no : isObj xs with
            | true => rw [no] at q; simp at q
            | false =>
            rw [no] at q
            simp only [Bool.false_eq_true, if_false] at q
            obtain ⟨v, hv, rv⟩ := r.at_ i _ h1
            have e : Evo S μ H (S.set j none) μ H := evo_drop
            have r2 : RelS X.K (S.set j none) μ H ρ σ := r.mono g e.w
            have hs : σ.set i (some v) = σ := by
              apply List.ext_getElem?
              intro m
              by_cases hm : i = m
              · subst hm
                rw [List.getElem?_set_self (List.getElem?_eq_some_iff.mp hv).1, hv]
              · rw [List.getElem?_set_ne hm]
            have r3 := r2.set i (rep_drop g h2 no rv)
            rw [hs] at r3
            exact ⟨_, _, μ, o, S', good_drop g, r3, q, by
              have z := k.trans e
              cases o <;> exact z⟩
      | _ => simp [h1] at q
/-- all the way in -/
theorem ss_frzD {i : Nat} (h : PSs X sts (tSs X.K F w iss)) : PSs X sts (tSs X.K F w (.cons (.frzD i) iss)) := PSs.weak h fun D σ H ⟨ρ, S, μ, o, S', g, r, q, k⟩ => by
  simp only [exs, ex] at q
  cases h1 : ρ[i]? with
  | none => simp [h1] at q
  | some od =>
    cases od with
    | none => simp [h1] at q
    | some d =>
      cases h2 : deep 1000 d S with
      | none => simp [h1, h2] at q
      | some p =>
        obtain ⟨d', S1⟩ := p
        simp only [h1, h2] at q
        obtain ⟨v, hv, rv⟩ := r.at_ i _ h1
        obtain ⟨g1, e, r1⟩ := deep_ok 1000 d d' S S1 μ H v h2 g rv
        have r2 : RelS X.K S1 μ H ρ σ := r.mono g e.w
        have hs : σ.set i (some v) = σ := by
          apply List.ext_getElem?
          intro m
          by_cases hm : i = m
          · subst hm
            rw [List.getElem?_set_self (List.getElem?_eq_some_iff.mp hv).1, hv]
          · rw [List.getElem?_set_ne hm]
        have r3 := r2.set i r1
        rw [hs] at r3
        exact ⟨_, _, μ, o, S', g1, r3, q, by
          have z := k.trans e
          cases o <;> exact z⟩
theorem s_pass : PS X (.Pass pos) (tS X.K F w .pass) := PS.weak ps_pass fun D σ H ⟨ρ, S, μ, o, S', g, r, q, k⟩ => by
  simp only [ex] at q
  cases q
  exact k σ μ H g (Evo.refl _ _ _) r
theorem s_brk : PS X (.Break pos) (tS X.K F w .brk) := PS.weak ps_break fun D σ H ⟨ρ, S, μ, o, S', g, r, q, k⟩ => by
  simp only [ex] at q
  cases q
  exact k σ μ H g (Evo.refl _ _ _) r
theorem s_cnt : PS X (.Continue pos) (tS X.K F w .cnt) := PS.weak ps_continue fun D σ H ⟨ρ, S, μ, o, S', g, r, q, k⟩ => by
  simp only [ex] at q
  cases q
  exact k σ μ H g (Evo.refl _ _ _) r
theorem s_never : PS X st (tS X.K F w .never) := PS.weak ps_never fun D σ H ⟨ρ, S, μ, o, S', g, r, q, k⟩ => by
  simp only [ex] at q
  cases q
theorem s_ex (he : PE X e (tE X.K F ie)) (hs : swapsWith e none pos.line X.env = pure false := by rfl) : PS X (.Expr e pos) (tS X.K F w (.ex ie)) := PS.weak (ps_expr he hs) fun D σ H ⟨ρ, S, μ, o, S', g, r, q, k⟩ => by
  simp only [ex] at q
  split at q
  · cases q
  · rename_i x S1 e1
    cases q
    exact ⟨ρ, S, μ, x, _, g, r, e1, fun v μ1 H1 g1 ev1 rv => k σ μ1 H1 g1 ev1 (r.mono g ev1.w)⟩
theorem s_ret (he : PE X e (tE X.K F ie)) : PS X (.Return (some e) pos) (tS X.K F w (.ret ie)) := PS.weak (ps_ret he) fun D σ H ⟨ρ, S, μ, o, S', g, r, q, k⟩ => by
  simp only [ex] at q
  split at q
  · cases q
  · rename_i x S1 e1
    cases q
    exact ⟨ρ, S, μ, x, _, g, r, e1, fun v μ1 H1 g1 ev1 rv => k v μ1 H1 g1 ev1 rv⟩
theorem s_if (hc : PT X c (tT X.K F ic)) (ha : PSs X sts (tSs X.K F w iss)) {sts2 : List Stmt} (hb : PSs X sts2 (tSs X.K F w its)) : PS X (.If c sts sts2 pos) (tS X.K F w (.ifs ic iss its)) := PS.weak (ps_if hc ha hb) fun D σ H ⟨ρ, S, μ, o, S', g, r, q, k⟩ => by
  simp only [ex] at q
  split at q
  · rename_i S1 e1
    exact ⟨ρ, S, μ, true, S1, g, r, e1, fun μ1 H1 g1 ev1 => by
      show (if true = true then _ else _)
      rw [if_pos rfl]
      exact ⟨ρ, S1, μ1, o, S', g1, r.mono g ev1.w, q, by have z := k.trans ev1; cases o <;> exact z⟩⟩
  · rename_i S1 e1
    exact ⟨ρ, S, μ, false, S1, g, r, e1, fun μ1 H1 g1 ev1 => by
      show (if false = true then _ else _)
      rw [if_neg Bool.false_ne_true]
      exact ⟨ρ, S1, μ1, o, S', g1, r.mono g ev1.w, q, by have z := k.trans ev1; cases o <;> exact z⟩⟩
  · cases q
theorem asg_read {t : Tg} {K : PySem.W.Frag} {D : Ends} {σ : L2.St} {H : Hp} (h : tS K F w (.asg t ie) D σ H) : tAsg (tE K F ie) (gT K t) D σ H := by
  obtain ⟨ρ, S, μ, o, S', g, r, q, k⟩ := h
  simp only [ex] at q
  split at q
  · cases q
  · rename_i x S1 e1
    split at q
    · cases q
    · rename_i ρ' st
      cases q
      exact ⟨ρ, S, μ, x, _, g, r, e1, fun v μ1 H1 g1 ev1 rv => ⟨x, ρ, ρ', _, μ1, g1, r.mono g ev1.w, rv, st, fun σ' r' _ _ => k σ' μ1 H1 g1 ev1 r'⟩⟩
theorem s_set {i : Nat} {x : Str} {pos' : Pos} (ok : Cok X) (hi : X.N[i]? = some x) (hx : Loc X.env.scope x) (he : PE X e (tE X.K F ie)) (hs : swapsWith e (some (.Name x pos')) pos.line X.env = pure false := by rfl) (hf : X.fn x = true ∨ X.env.scope.names.lookup x = some .local := by first | exact .inl rfl | exact .inr rfl | assumption) :
    PS X (.Assign [.Name x pos'] e pos) (tS X.K F w (.asg (.n i) ie)) := PS.weak (ps_set ok.nd hi hx he hs hf) fun D σ H h => by
  obtain ⟨ρ, S, μ, d, S', g, r, q, k⟩ := asg_read h
  exact ⟨ρ, S, μ, d, S', g, r, q, fun v μ1 H1 g1 e1 rv => by
    obtain ⟨d2, ρ2, ρ3, S2, μ2, g2, r2, rv2, st2, k2⟩ := k v μ1 H1 g1 e1 rv
    cases st2
    exact k2 _ (r2.set i rv2) (by rw [List.length_set]) fun j hj => List.getElem?_set_ne (by intro z; exact hj (by simp [slotsT, z]))⟩
theorem s_asg {t : Tg} (he : PE X e (tE X.K F ie)) (hg : PG X tg (gT X.K t)) (hs : swapsWithSole [tg] e pos.line X.env = pure false := by rfl) (hw : swappedStores [tg] e X.env = pure none := by rfl)
    (h1 : (assignEach [tg] X.env).map (·.2) = [assign tg X.env] := by rfl) : PS X (.Assign [tg] e pos) (tS X.K F w (.asg t ie)) := PS.weak (ps_asg he hg hs hw h1) fun D σ H h => asg_read h
/-- name = [..] on one line -/
theorem s_setLc {i : Nat} {y : Str} {py spos : Pos} {mt : Bool} {t : Tg} {elt iter : Expr} {scope : Scope} {own : List (Str × Nat)} (ok : Cok X) (hy : X.N[i]? = some y) (hyl : X.env.scope.names.lookup y = some .local)
    (hsw : swapsWith (.ListComp elt [⟨tg, iter, [], 0⟩] scope pos) (some (.Name y py)) spos.line X.env = pure true) (hs : own.map (·.2) = slotsT t) (hi : PI X tg iter (tI X.K F ia)) (bk : BlkOk X.N X.env.scope scope own)
    (hg : ∀ s H C cl fp, PG (Blk X scope s H C cl fp) tg (gT X.K t)) (he : ∀ s H C cl fp, PE (Blk X scope s H C cl fp) elt (tE X.K F ie)) (hf : ∀ x, foldedSetIterable iter X.env x = pure x := by intro _; rfl) :
    PS X (.Assign [.Name y py] (.ListComp elt [⟨tg, iter, [], 0⟩] scope pos) spos) (tS X.K F w (.asg (.n i) (.comp mt t ia ie))) :=
  PS.weak (ps_setLc ok.calm ok.nd hy hyl hsw hi bk hg (fun _ _ _ _ _ => pts_nil) he hf) fun D σ H h => by
    rw [hs]
    obtain ⟨ρ, S, μ, d, S', g, r, q, k⟩ := asg_read h
    exact lc_plain ⟨ρ, S, μ, d, S', g, r, q, fun v μ1 H1 g1 e1 rv => by
      obtain ⟨d2, ρ2, ρ3, S2, μ2, g2, r2, rv2, st2, k2⟩ := k v μ1 H1 g1 e1 rv
      cases st2
      exact k2 _ (r2.set i rv2) (by rw [List.length_set]) fun j hj => List.getElem?_set_ne (by intro z; exact hj (by simp [slotsT, z]))⟩
theorem s_setLcI {i : Nat} {y : Str} {py spos : Pos} {mt : Bool} {t : Tg} {elt iter : Expr} {scope : Scope} {own : List (Str × Nat)} (ok : Cok X) (hy : X.N[i]? = some y) (hyl : X.env.scope.names.lookup y = some .local)
    (hsw : swapsWith (.ListComp elt [⟨tg, iter, [c], 0⟩] scope pos) (some (.Name y py)) spos.line X.env = pure true) (hs : own.map (·.2) = slotsT t) (hi : PI X tg iter (tI X.K F ia)) (bk : BlkOk X.N X.env.scope scope own)
    (hg : ∀ s H C cl fp, PG (Blk X scope s H C cl fp) tg (gT X.K t)) (hc : ∀ s H C cl fp, PT (Blk X scope s H C cl fp) c (tT X.K F ic)) (he : ∀ s H C cl fp, PE (Blk X scope s H C cl fp) elt (tE X.K F ie)) (hf : ∀ x, foldedSetIterable iter X.env x = pure x := by intro _; rfl) :
    PS X (.Assign [.Name y py] (.ListComp elt [⟨tg, iter, [c], 0⟩] scope pos) spos) (tS X.K F w (.asg (.n i) (.compI mt t ia ic ie))) :=
  PS.weak (ps_setLc ok.calm ok.nd hy hyl hsw hi bk hg (fun s H C cl fp => pts_one (hc s H C cl fp)) he hf) fun D σ H h => by
    rw [hs]
    obtain ⟨ρ, S, μ, d, S', g, r, q, k⟩ := asg_read h
    exact lc_if ⟨ρ, S, μ, d, S', g, r, q, fun v μ1 H1 g1 e1 rv => by
      obtain ⟨d2, ρ2, ρ3, S2, μ2, g2, r2, rv2, st2, k2⟩ := k v μ1 H1 g1 e1 rv
      cases st2
      exact k2 _ (r2.set i rv2) (by rw [List.length_set]) fun j hj => List.getElem?_set_ne (by intro z; exact hj (by simp [slotsT, z]))⟩
theorem s_setLc2 {i : Nat} {y : Str} {py spos : Pos} {mt : Bool} {t t2 : Tg} {elt iter tg2 iter2 : Expr} {scope : Scope} {own : List (Str × Nat)} (ok : Cok X) (hy : X.N[i]? = some y) (hyl : X.env.scope.names.lookup y = some .local)
    (hsw : swapsWith (.ListComp elt [⟨tg, iter, [], 0⟩, ⟨tg2, iter2, [], 0⟩] scope pos) (some (.Name y py)) spos.line X.env = pure true) (hs : own.map (·.2) = slotsT t ++ slotsT t2) (hi : PI X tg iter (tI X.K F ia)) (bk : BlkOk X.N X.env.scope scope own)
    (hg : ∀ s H C cl fp, PG (Blk X scope s H C cl fp) tg (gT X.K t)) (hi2 : ∀ s H C cl fp, PI (Blk X scope s H C cl fp) tg2 iter2 (tI X.K F ib)) (hg2 : ∀ s H C cl fp, PG (Blk X scope s H C cl fp) tg2 (gT X.K t2)) (he : ∀ s H C cl fp, PE (Blk X scope s H C cl fp) elt (tE X.K F ie)) (hf : ∀ x, foldedSetIterable iter X.env x = pure x := by intro _; rfl) (hf2 : ∀ env x, foldedSetIterable iter2 env x = pure x := by intro _ _; rfl) :
    PS X (.Assign [.Name y py] (.ListComp elt [⟨tg, iter, [], 0⟩, ⟨tg2, iter2, [], 0⟩] scope pos) spos) (tS X.K F w (.asg (.n i) (.comp2 mt t ia t2 ib ie))) :=
  PS.weak (ps_setLc2 ok.calm ok.nd hy hyl hsw hi bk (vs1 := slotsT t2) (by rw [hs]; exact fun i hi => List.mem_append_right _ hi) hg (fun _ _ _ _ _ => pts_nil) hi2 hg2 (fun _ _ _ _ _ => pts_nil) he hf hf2) fun D σ H h => by
    rw [hs]
    obtain ⟨ρ, S, μ, d, S', g, r, q, k⟩ := asg_read h
    exact lc_two ⟨ρ, S, μ, d, S', g, r, q, fun v μ1 H1 g1 e1 rv => by
      obtain ⟨d2, ρ2, ρ3, S2, μ2, g2, r2, rv2, st2, k2⟩ := k v μ1 H1 g1 e1 rv
      cases st2
      exact k2 _ (r2.set i rv2) (by rw [List.length_set]) fun j hj => List.getElem?_set_ne (by intro z; exact hj (by simp [slotsT, z]))⟩
/-- a, b = x, y -/
theorem s_par2 {i j : Nat} {x y : Str} {px py pt : Pos} {kt k2 : Nat} {pt2 : Pos} (ok : Cok X) (hi : X.N[i]? = some x) (hj : X.N[j]? = some y) (hij : i ≠ j) (hx : X.env.scope.names.lookup x = some .local) (hy : X.env.scope.names.lookup y = some .local) (ha : PA X [a, b] (tA X.K F ies))
    (hw : swappedStores [.Tuple [.Name x px, .Name y py] kt pt] (.Tuple [a, b] k2 pt2) X.env = pure (some [x, y])) (hs : swapsWithSole [.Tuple [.Name x px, .Name y py] kt pt] (.Tuple [a, b] k2 pt2) pos.line X.env = pure false := by rfl) :
    PS X (.Assign [.Tuple [.Name x px, .Name y py] kt pt] (.Tuple [a, b] k2 pt2) pos) (tS X.K F w (.par [i, j] ies)) := PS.weak (ps_par ok.calm ok.nd hi hj hij hx hy ha hw hs) fun D σ H ⟨ρ, S, μ, o, S', g, r, q, k⟩ => by
  simp only [ex] at q
  split at q
  · cases q
  · rename_i xs S1 e1
    split at q
    · rename_i hl
      cases q
      match xs, hl with
      | [x1, x2], _ =>
        exact ⟨ρ, S, μ, _, _, g, r, e1, fun vs μ1 H1 g1 ev1 rv => by
          obtain ⟨v, ws, rfl, hv, hw⟩ := rv
          obtain ⟨w, rfl, hw2⟩ := reps1 hw
          exact ⟨v, w, rfl, k _ μ1 H1 g1 ev1 (((r.mono g ev1.w).set i hv).set j hw2)⟩⟩
    · cases q
theorem s_par3 {i j l : Nat} {x y z : Str} {px py pz pt : Pos} {kt k2 : Nat} {pt2 : Pos} (ok : Cok X) (hi : X.N[i]? = some x) (hj : X.N[j]? = some y) (hl : X.N[l]? = some z) (hij : i ≠ j) (hil : i ≠ l) (hjl : j ≠ l) (hx : X.env.scope.names.lookup x = some .local) (hy : X.env.scope.names.lookup y = some .local) (hz : X.env.scope.names.lookup z = some .local)
    (ha : PA X [a, b, c] (tA X.K F ies)) (hw : swappedStores [.Tuple [.Name x px, .Name y py, .Name z pz] kt pt] (.Tuple [a, b, c] k2 pt2) X.env = pure (some [x, y, z])) (hs : swapsWithSole [.Tuple [.Name x px, .Name y py, .Name z pz] kt pt] (.Tuple [a, b, c] k2 pt2) pos.line X.env = pure false := by rfl) :
    PS X (.Assign [.Tuple [.Name x px, .Name y py, .Name z pz] kt pt] (.Tuple [a, b, c] k2 pt2) pos) (tS X.K F w (.par [i, j, l] ies)) := PS.weak (ps_par3 ok.calm ok.nd hi hj hl hij hil hjl hx hy hz ha hw hs) fun D σ H ⟨ρ, S, μ, o, S', g, r, q, k⟩ => by
  simp only [ex] at q
  split at q
  · cases q
  · rename_i xs S1 e1
    split at q
    · rename_i hl
      cases q
      match xs, hl with
      | [x1, x2, x3], _ =>
        exact ⟨ρ, S, μ, _, _, g, r, e1, fun vs μ1 H1 g1 ev1 rv => by
          obtain ⟨v, ws, rfl, hv, hw⟩ := rv
          obtain ⟨w, us, rfl, hw1, hw2⟩ := hw
          obtain ⟨u, rfl, hu⟩ := reps1 hw2
          exact ⟨v, w, u, rfl, k _ μ1 H1 g1 ev1 ((((r.mono g ev1.w).set i hv).set j hw1).set l hu)⟩⟩
    · cases q
/-- o[i] = e -/
theorem s_put {sp : Pos} (ho : PE X a (tE X.K F ia)) (hi : PE X b (tE X.K F ib)) (he : PE X e (tE X.K F ie))
    (ha : ∀ v, assign (.Subscript a b sp) X.env v = (do
      let ov ← holding [v] (eval a X.env)
      let iv ← holding [v, ov] (eval b X.env)
      standAt sp
      holding [v, ov, iv] (setItem ov iv v)
      release [v, ov, iv] []) := by intro _; rfl)
    (hs : swapsWithSole [.Subscript a b sp] e pos.line X.env = pure false := by rfl) (hw : swappedStores [.Subscript a b sp] e X.env = pure none := by rfl)
    (h1 : (assignEach [.Subscript a b sp] X.env).map (·.2) = [assign (.Subscript a b sp) X.env] := by rfl) : PS X (.Assign [.Subscript a b sp] e pos) (tS X.K F w (.put ia ib ie)) :=
  PS.weak (ps_asg he (pg_sub ho hi set_list ha) hs hw h1) fun D σ H ⟨ρ, S, μ, o, S', g, r, q, k⟩ => by
    simp only [ex] at q
    split at q
    · cases q
    · rename_i x S1 e1
      split at q
      · rename_i l S2 e2
        split at q
        · rename_i kk S3 e3
          split at q
          · rename_i xs hS
            split at q
            · rename_i j hj
              split at q
              · cases q
              · rename_i no
                cases q
                refine ⟨ρ, S, μ, x, S1, g, r, e1, fun v μ1 H1 g1 ev1 rv => ⟨ρ, S1, μ1, _, S2, g1, r.mono g ev1.w, e2, fun ov μ2 H2 g2 ev2 ro => ⟨ρ, S2, μ2, _, S3, g2, r.mono g (ev1.trans ev2).w, e3, fun iv μ3 H3 g3 ev3 ri => ?_⟩⟩⟩
                obtain ⟨p, rfl, mp⟩ := ro.mono g2 ev3.w
                obtain ⟨p2, oo, mp2, hH, r0⟩ := g3.at_ _ _ hS
                rw [mp] at mp2; cases mp2
                obtain ⟨vs, rfl, rr⟩ := Obs.ls (by simpa using no) r0
                cases (show iv = V.int kk from ri)
                have ev12 := ev1.trans (ev2.trans ev3)
                have hp4 := evo_put (o := .lst (vs.set j v)) (ys := xs.set j x) g3 hS mp
                have g4 := good_put g3 hS mp (Reps.set ((rv.mono g1 (ev2.trans ev3).w)) j rr)
                exact ⟨p, vs, kk, j, rfl, rfl, hH, by rw [← rr.length]; exact hj, k σ μ3 _ g4 (ev12.trans hp4) (r.mono g (ev12.trans hp4).w)⟩
            · cases q
          · cases q
        · cases q
      · cases q

theorem zip_fst_snd {α β : Type} : ∀ l : List (α × β), (l.map (·.1)).zip (l.map (·.2)) = l
  | [] => rfl
  | _ :: l => by rw [List.map_cons, List.map_cons, List.zip_cons_cons, zip_fst_snd l]
theorem putP_rep {K : PySem.W.Frag} {S : Sto} {μ : Mu} {H : Hp} {f : Str} {d : D} {v : V} (h : Rep K S μ H d v) : ∀ (ns : List Str) (fs : List D) (vs : List V), ns.length = fs.length → Reps K S μ H fs vs →
    (putF f v (ns.zip vs)).map (·.1) = (putP f d (ns.zip fs)).map (·.1) ∧ Reps K S μ H ((putP f d (ns.zip fs)).map (·.2)) ((putF f v (ns.zip vs)).map (·.2))
  | [], [], vs, _, _ => ⟨rfl, _, _, rfl, h, rfl⟩
  | [], _ :: _, _, e, _ => by cases e
  | _ :: _, [], _, e, _ => by cases e
  | n :: ns, c :: fs, vs, e, ⟨w, r, ev, h1, h2⟩ => by
    subst ev
    simp only [List.zip_cons_cons, putF, putP]
    by_cases q : n = f
    · rw [if_pos q, if_pos q]
      have hl : (ns.zip r).map (·.1) = (ns.zip fs).map (·.1) := by
        have e2 := h2.length
        have e3 : ns.length = fs.length := Nat.succ.inj e
        rw [List.map_fst_zip (by omega), List.map_fst_zip (by omega)]
      have hs : (ns.zip r).map (·.2) = r := List.map_snd_zip (by have := h2.length; have e3 : ns.length = fs.length := Nat.succ.inj e; omega)
      have hs2 : (ns.zip fs).map (·.2) = fs := List.map_snd_zip (by have e3 : ns.length = fs.length := Nat.succ.inj e; omega)
      refine ⟨by rw [List.map_cons, List.map_cons, hl], ?_⟩
      rw [List.map_cons, List.map_cons, hs, hs2]
      exact ⟨_, _, rfl, h, h2⟩
    · rw [if_neg q, if_neg q]
      obtain ⟨i1, i2⟩ := putP_rep h ns fs r (Nat.succ.inj e) h2
      exact ⟨by rw [List.map_cons, List.map_cons, i1], _, _, rfl, h1, i2⟩
theorem s_setf {x f : Str} {pos' : Pos} (hc : Cls X.K (He.ga X.K x)) (hn : NoAttr X.K (He.ga X.K x) f) (ho : PE X a (tE X.K F ia)) (he : PE X e (tE X.K F ie)) (hs : swapsWith e (some (.Attribute a f pos')) pos.line X.env = pure false := by rfl) :
    PS X (.Assign [.Attribute a f pos'] e pos) (tS X.K F w (.setf x ia f ie)) := PS.weak (ps_fld ho he hs) fun D σ H ⟨ρ, S, μ, o, S', g, r, q, k⟩ => by
  simp only [ex] at q
  split at q
  · cases q
  · rename_i d0 S1 e1
    split at q
    · rename_i i S2 e2
      split at q
      · rename_i xs hS
        split at q
        · rename_i ys hp
          cases q
          refine ⟨ρ, S, μ, d0, S1, g, r, e1, fun v μ1 H1 g1 ev1 rv => ⟨ρ, S1, μ1, .ref i, S2, g1, r.mono g ev1.w, e2, fun ov μ2 H2 g2 ev2 ro => ?_⟩⟩
          unfold putD at hp
          split at hp
          · rename_i z ns fs
            split at hp
            · rename_i hz
              rw [Bool.and_eq_true, decide_eq_true_eq, decide_eq_true_eq] at hz
              obtain ⟨rfl, hl100⟩ := hz
              cases hp
              obtain ⟨b, dx, vs, rfl, mb, hb, hl, rr⟩ := g2.ob hS ro
              obtain ⟨p1, p2⟩ := putP_rep (f := f) (rv.mono g1 ev2.w) ns fs vs hl rr
              have ob : Obs X.K S2 μ2 H2 (.cl z ((putP f d0 (ns.zip fs)).map (·.1)) :: (putP f d0 (ns.zip fs)).map (·.2)) (.ins (He.ga X.K z) dx (putF f v (ns.zip vs))) := by
                refine ⟨dx, (putF f v (ns.zip vs)).map (·.2), ?_, by rw [List.length_map, List.length_map], p2⟩
                rw [← p1, zip_fst_snd]
              have g3 := good_put2 g2 hS mb ob
              have ev3 := evo_put (o := .ins (He.ga X.K z) dx (putF f v (ns.zip vs))) (ys := .cl z ((putP f d0 (ns.zip fs)).map (·.1)) :: (putP f d0 (ns.zip fs)).map (·.2)) g2 hS mb
              have ev13 := (ev1.trans ev2).trans ev3
              refine ⟨b, _, dx, _, rfl, hb, hc, hn, ?_, k σ _ _ g3 ev13 (r.mono g ev13.w)⟩
              rw [List.length_zip]
              omega
            · cases hp
          · cases hp
        · cases q
      · cases q
    · cases q

theorem for_read {K : PySem.W.Frag} {t : Tg} {De : Ends} {σ : L2.St} {H : Hp} {ρ : Env} {S S1 S' : Sto} {μ : Mu} {o : Out} {x : D} {xs : List D} (g : Good K S μ H) (r : RelS K S μ H ρ σ) (e1 : ev F ia ρ S = some (x, S1)) (hx : items x = some xs) (q : forRun t (fun ρ S => exs F w iss ρ S) xs ρ S1 = some (o, S')) (k : OutOk K S μ H De σ o S') :
    tFor (tI K F ia) (gT K t) (tSs K F w iss) De σ H := by
  refine ⟨ρ, S, μ, x, S1, xs, g, r, e1, hx, fun J μ1 H1 g1 ev1 W => ?_⟩
  refine ⟨fun i m σ2 H2 => m = xs.length - i ∧ i ≤ xs.length ∧ ∃ (ρ2 : Env) (S2 : Sto) (μ2 : Mu), Good K S2 μ2 H2 ∧ Evo S1 μ1 H1 S2 μ2 H2 ∧ RelS K S2 μ2 H2 ρ2 σ2 ∧ forRun t (fun ρ S => exs F w iss ρ S) (xs.drop i) ρ2 S2 = some (o, S'),
    ⟨xs.length, by simp, Nat.zero_le _, ρ, S1, μ1, g1, Evo.refl _ _ _, r.mono g ev1.w, q⟩, ?_⟩
  rintro i m σ2 H2 ⟨rfl, hi, ρ2, S2, μ2, g2, ev2, r2, ec⟩
  obtain ⟨go, stop, yl⟩ := W S2 μ2 H2 g2 ev2.w
  by_cases hlt : i < xs.length
  · refine .inr ⟨go i hlt, _, fun σ' H' h' => ⟨xs.length - (i + 1), by omega, h'⟩, fun v H4 hy => ?_⟩
    obtain ⟨dd, hdd, g4, e4, r4⟩ := yl i v H4 hlt hy
    have edrop : xs.drop i = dd :: xs.drop (i + 1) := by
      rw [List.drop_eq_getElem_cons hlt]
      rw [List.getElem?_eq_getElem hlt] at hdd
      cases hdd
      rfl
    rw [edrop] at ec
    unfold forRun at ec
    split at ec
    · cases ec
    · rename_i ρ3 st
      refine ⟨dd, ρ2, ρ3, S2, μ2, g4, r2.mono g2 e4.w, r4, st, fun σ3 r3 _ _ => ?_⟩
      have ev24 := ev2.trans e4
      split at ec
      · cases ec
      · rename_i ρ4 S4 eb
        exact ⟨ρ3, S2, μ2, _, S4, g4, r3, eb, fun σ5 μ5 H5 g5 ev5 r5 => ⟨rfl, hlt, ρ4, S4, μ5, g5, ev24.trans ev5, r5, ec⟩⟩
      · rename_i ρ4 S4 eb
        exact ⟨ρ3, S2, μ2, _, S4, g4, r3, eb, fun σ5 μ5 H5 g5 ev5 r5 => ⟨rfl, hlt, ρ4, S4, μ5, g5, ev24.trans ev5, r5, ec⟩⟩
      · rename_i ρ4 S4 eb
        cases ec
        exact ⟨ρ3, S2, μ2, _, _, g4, r3, eb, fun σ5 μ5 H5 g5 ev5 r5 => k σ5 μ5 H5 g5 (ev1.trans (ev24.trans ev5)) r5⟩
      · rename_i d4 S4 eb
        cases ec
        exact ⟨ρ3, S2, μ2, _, _, g4, r3, eb, fun v5 μ5 H5 g5 ev5 r5 => k v5 μ5 H5 g5 (ev1.trans (ev24.trans ev5)) r5⟩
  · have hi' : i = xs.length := by omega
    subst hi'
    rw [List.drop_length] at ec
    unfold forRun at ec
    cases ec
    exact .inl ⟨stop, k σ2 μ2 H2 g2 (ev1.trans ev2) r2⟩
theorem s_for {t : Tg} {iter : Expr} (ok : Cok X) (hp : PassesOwn (model X.prog X.w) X.A X.env X.xe) (hi : PI X tg iter (tI X.K F ia)) (hg : PG X tg (gT X.K t)) (hb : PSs X sts (tSs X.K F w iss)) (hf : ∀ x, foldedSetIterable iter X.env x = pure x := by intro _; rfl) :
    PS X (.For tg iter sts [] pos) (tS X.K F w (.for t ia iss)) := PS.weak (ps_for hp ok.calm hi hg hb hf) fun D σ H ⟨ρ, S, μ, o, S', g, r, q, k⟩ => by
  simp only [ex] at q
  split at q
  · cases q
  · rename_i x S1 e1
    split at q
    · cases q
    · rename_i xs hx
      exact for_read g r e1 hx q k
theorem s_wh (hp : PassesOwn (model X.prog X.w) X.A X.env X.xe) (hc : PT X c (tT X.K F ic)) (hb : PSs X sts (tSs X.K F w iss)) : PS X (.While c sts [] pos) (tS X.K F w (.wh ic iss)) := PS.weak (ps_while hp hc hb) fun D σ H ⟨ρ, S, μ, o, S', g, r, q, k⟩ => by
  simp only [ex] at q
  refine ⟨fun m σ2 H2 => ∃ (ρ2 : Env) (S2 : Sto) (μ2 : Mu), Good X.K S2 μ2 H2 ∧ Evo S μ H S2 μ2 H2 ∧ RelS X.K S2 μ2 H2 ρ2 σ2 ∧ whRun (fun ρ S => ev F ic ρ S) (fun ρ S => exs F w iss ρ S) m ρ2 S2 = some (o, S'), ⟨w, ρ, S, μ, g, Evo.refl _ _ _, r, q⟩, ?_⟩
  rintro m σ2 H2 ⟨ρ2, S2, μ2, g2, ev2, r2, ec⟩
  cases m with
  | zero => cases ec
  | succ m =>
    unfold whRun at ec
    split at ec
    · rename_i S3 et
      cases ec
      exact ⟨ρ2, S2, μ2, false, _, g2, r2, et, fun μ3 H3 g3 ev3 => by
        show (if false = true then _ else _)
        rw [if_neg Bool.false_ne_true]
        exact k σ2 μ3 H3 g3 (ev2.trans ev3) (r2.mono g2 ev3.w)⟩
    · rename_i S3 et
      refine ⟨ρ2, S2, μ2, true, S3, g2, r2, et, fun μ3 H3 g3 ev3 => ?_⟩
      show (if true = true then _ else _)
      rw [if_pos rfl]
      refine ⟨_, fun σ' H' h' => ⟨m, Nat.lt_succ_self m, h'⟩, ?_⟩
      have ev23 := ev2.trans ev3
      have r3 := r2.mono g2 ev3.w
      split at ec
      · cases ec
      · rename_i ρ4 S4 eb
        exact ⟨ρ2, S3, μ3, _, S4, g3, r3, eb, fun σ5 μ5 H5 g5 ev5 r5 => ⟨ρ4, S4, μ5, g5, ev23.trans ev5, r5, ec⟩⟩
      · rename_i ρ4 S4 eb
        exact ⟨ρ2, S3, μ3, _, S4, g3, r3, eb, fun σ5 μ5 H5 g5 ev5 r5 => ⟨ρ4, S4, μ5, g5, ev23.trans ev5, r5, ec⟩⟩
      · rename_i ρ4 S4 eb
        cases ec
        exact ⟨ρ2, S3, μ3, _, _, g3, r3, eb, fun σ5 μ5 H5 g5 ev5 r5 => k σ5 μ5 H5 g5 (ev23.trans ev5) r5⟩
      · rename_i d4 S4 eb
        cases ec
        exact ⟨ρ2, S3, μ3, _, _, g3, r3, eb, fun v5 μ5 H5 g5 ev5 r5 => k v5 μ5 H5 g5 (ev23.trans ev5) r5⟩
    · cases ec
end
end Iv

set_option Elab.async false
set_option linter.all false
set_option maxRecDepth 100000
set_option maxHeartbeats 1000000
namespace Iv
open PySem PySem.Spec PyProof.Rows L2
section
variable {X : Cx} {F : CF} {a b c e : Expr} {es : List Expr} {ia ib ic ie : E} {ies : Es} {pos : Pos}
def tRev (K : PySem.W.Frag) (te : TE) : TE := fun σ H Q => te σ H fun x H1 => ∃ a xs, x = .ref a ∧ SqL K H1 a xs ∧ ∀ p, H1 p = none → Q (.ref p) (upd H1 p (.lst xs.reverse))
theorem vals_rev {vs : List V} {us : List Value} (r : Vals vs us) : Vals vs.reverse us.reverse := by
  induction r with
  | nil => exact .nil
  | cons h _ ih =>
    rw [List.reverse_cons, List.reverse_cons]
    exact ih.append (.cons h .nil)
theorem pe_rev {te : TE} {k : Nat} {p0 p1 p3 : Pos} (he : PE X e te) : PE X (.Subscript e (.Slice none none (some (.UnaryOp .USub (.Constant (.int 1) k p0) p1)) p3) pos) (tRev X.K te) := by
  refine ⟨fun pins s σ H Q I h => ?_⟩
  refine Subscript_ (thn (he.run pins s σ H _ I h) fun v s1 ⟨x, H1, I1, r1, q1⟩ => ?_)
  obtain ⟨a, xs, ex, hx, q⟩ := q1
  subst ex
  cases r1
  have hst : PO X (some (.UnaryOp .USub (.Constant (.int 1) k p0) p1)) (tPart (tUn (rU fun i => .int (-i)) (tC (.int 1)))) := po_some (pe_un un_neg pe_int)
  refine wpAny_Slice (thn (po_none.run pins s1 σ H1 (fun o H2 => o = none ∧ H2 = H1) I1 ⟨rfl, rfl⟩) fun vl s2 ⟨l, H2, I2, pl, el, e2⟩ => ?_)
  subst el e2
  refine thn (po_none.run pins s2 σ H2 (fun o H3 => o = none ∧ H3 = H2) I2 ⟨rfl, rfl⟩) fun vu s3 ⟨u, H3, I3, pu, eu, e3⟩ => ?_
  subst eu e3
  refine thn (hst.run pins s3 σ H3 (fun o H4 => o = some (-1) ∧ H4 = H3) I3 ⟨1, rfl, -1, rfl, rfl, rfl⟩) fun vs s4 ⟨o, H4, I4, ps, eo, e4⟩ => ?_
  subst eo e4
  have I5 : Inv X pins σ H4 { s4 with heap := s4.heap.push { cls := .type "slice", data := .fields #[vl, vu, vs] } } := I4.kept (t' := s4.toks) fun b ob q => Heap.get?_push_of_some _ q
  obtain ⟨its, r, ht, hz⟩ := I5.list hx
  have hlen := r.length
  show wpAny (model X.prog X.w) X.A (subscriptTail e (.Slice none none (some (.UnaryOp .USub (.Constant (.int 1) k p0) p1)) p3) (.ref a) (.ref s4.heap.objs.size)) (EP X pins σ Q) X.xe { s4 with heap := s4.heap.push { cls := .type "slice", data := .fields #[vl, vu, vs] } }
  refine tail_any (ops := [.ref a, .ref s4.heap.objs.size]) ht.isList.typeIs (PySem.slot_list_getitem.lookup) ?_ (by with_unfolding_all rfl)
  refine wpAny_getItem_list_slice ht.isList (Heap.IsSliceOf.new _ vl vu vs) pl pu ps (by decide) ?_ (by rw [List.size_toArray]; omega)
  rw [PySem.W.krv_pick]
  refine ⟨.ref _, _, I5.laid (t' := s4.toks) (o := .lst xs.reverse) (fun b ob q => Heap.get?_push_of_some _ q) (Nat.le_refl _) ?_, rfl, q _ (I5.hok.fresh (Nat.le_refl _))⟩
  exact ⟨by rw [List.length_reverse]; omega, _, 0, vals_rev r, Heap.get?_push_size _ rfl⟩
theorem reps_rev {K : PySem.W.Frag} {S : Sto} {μ : Mu} {H : Hp} : ∀ {ds : List D} {vs : List V}, Reps K S μ H ds vs → Reps K S μ H ds.reverse vs.reverse
  | [], vs, h => by cases (show vs = [] from h); exact h
  | d :: ds, vs, ⟨v, r, e, h1, h2⟩ => by
    subst e
    rw [List.reverse_cons, List.reverse_cons]
    exact Reps.append (reps_rev h2) ⟨v, [], rfl, h1, rfl⟩
theorem i_rev {k : Nat} {p0 p1 p3 : Pos} (ha : PE X a (tE X.K F ia)) : PE X (.Subscript a (.Slice none none (some (.UnaryOp .USub (.Constant (.int 1) k p0) p1)) p3) pos) (tE X.K F (.rev ia)) :=
  PE.weak (pe_rev ha) fun σ H Q ⟨ρ, S, μ, d, S', g, r, q, k⟩ => by
    simp only [ev] at q
    split at q
    · cases q
    · rename_i x S1 ea
      split at q
      · rename_i xs sx
        split at q
        · cases q
          exact ⟨ρ, S, μ, x, S', g, r, ea, fun v μ1 H1 g1 e1 rv => by
            obtain ⟨a, vs, rfl, qa, ra⟩ := see_ok g1 rv sx
            exact ⟨a, vs, rfl, qa.l, fun p hp => k _ _ _ (good_new g1 hp) (e1.trans (evo_new g1 hp)) (rep_lst_new g1 hp (reps_rev ra))⟩⟩
        · cases q
      · cases q
def rNew (K : PySem.W.Frag) (o : Operator) : R2 := fun v w H Q => ∃ S μ x y zs, Good K S μ H ∧ Seen K S μ H x v ∧ Seen K S μ H y w ∧ opD o x y = some (.lst zs) ∧ ContS K S μ H (S ++ [some zs]) (.ref S.length) Q
theorem op_New (o : Operator) : OpR X (binaryOp o) (rNew X.K o) := by
  intro pins s σ H v w u1 u2 Q I r1 r2 h
  obtain ⟨S, μ, x, y, zs, g, hx, hy, e, k⟩ := h
  have fin : ∀ {vs : List V}, Reps X.K S μ H zs vs → ∀ p, H p = none → Q (.ref p) (upd H p (.lst vs)) := fun {vs} r p hp =>
    k _ _ _ (good_mk g hp r) (evo_mk g hp) ⟨p, rfl, get_last g.len⟩
  cases o with
  | Add =>
    cases x with
    | lst xs =>
      cases y with
      | lst ys =>
        simp only [opD] at e
        split at e
        · rename_i hz
          cases e
          obtain ⟨p, vs, rfl, qa, ra⟩ := hx
          obtain ⟨p', ws, rfl, qb, rb⟩ := hy
          cases r1; cases r2
          exact cat_lists I qa qb (by rw [← ra.length, ← rb.length]; exact small_line hz) (fin (ra.append rb))
        · cases e
      | _ => simp [opD] at e
    | _ => cases y <;> simp [opD] at e <;> (split at e <;> simp at e)
  | Mult =>
    cases x with
    | lst xs =>
      cases y with
      | int j =>
        simp only [opD] at e
        split at e
        · rename_i hz
          cases e
          rw [Bool.and_eq_true, Bool.and_eq_true, decide_eq_true_eq, decide_eq_true_eq] at hz
          obtain ⟨p, vs, rfl, qa, ra⟩ := hx
          cases (show w = V.int j from hy)
          cases r1
          obtain ⟨t, rfl⟩ := (show ∃ t, u2 = Value.int j t from r2)
          exact times_list I qa hz.2.1 hz.2.2 (by rw [← ra.length]; exact small_line hz.1) (fin (ra.many j.toNat))
        · cases e
      | _ => simp [opD] at e
    | _ => cases y <;> simp [opD] at e <;> (split at e <;> simp at e)
  | _ => cases x <;> cases y <;> simp [opD] at e <;> (split at e <;> simp at e)
theorem i_newop {o : Operator} (ha : PE X a (tE X.K F ia)) (hb : PE X b (tE X.K F ib)) : PE X (.BinOp a o b pos) (tE X.K F (.newop o ia ib)) :=
  PE.weak (pe_op (op_New o) ha hb) fun σ H Q ⟨ρ, S, μ, d, S', g, r, q, k⟩ => by
    simp only [ev] at q
    split at q
    · cases q
    · rename_i x S1 ea
      split at q
      · cases q
      · rename_i y S2 eb
        split at q
        · rename_i x' y' sx sy
          split at q
          · rename_i zs ez
            simp only [mkList, if_true] at q
            cases q
            exact two g r ea eb fun v w μ2 H2 g2 e2 rx ry => ⟨_, μ2, x', y', zs, g2, see_ok g2 rx sx, see_ok g2 ry sy, ez, fun v' μ' H' g3 e3 rz => k v' μ' H' g3 (e2.trans e3) rz⟩
          · cases q
        · cases q
def tyNames : List String := ["NoneType", "bool", "int", "str", "tuple", "list", "dict"]
structure ClsFacts (K : PySem.W.Frag) (x : Str) (subs nos : List Str) : Prop where
  base : ∀ t ∈ tyNames, PySem.W.kitOne K (.type t) (.ref (He.ga K x)) = some false
  sub : ∀ y ∈ subs, PySem.W.kitOne K (.ref (He.ga K y)) (.ref (He.ga K x)) = some true
  no : ∀ y ∈ nos, PySem.W.kitOne K (.ref (He.ga K y)) (.ref (He.ga K x)) = some false
  own : ∀ y ∈ subs ++ nos, Cls K (He.ga K y) ∧ PySem.W.findIn K (.ref (He.ga K y)) "__class__" = some (some (.builtin "object.__class__")) ∧ PySem.W.mroIn K (He.ga K y) (.type "object") = some true
  spec : PySem.W.specialIn K (.builtin "object.__class__") "__get__" = some (some (.builtin "getset_descriptor.__get__"))
  takes : PySem.W.takesIn K (.builtin "object.__class__") = some true
theorem rep_type {K : PySem.W.Frag} {S : Sto} {μ : Mu} {H : Hp} {d : D} {v : V} {x : Str} {subs nos : List Str} {b : Bool} (C : ClsFacts K x subs nos) (g : Good K S μ H) (r : Rep K S μ H d v) (e : isCD S d subs nos = some b) :
    ∃ t, TyX K H v t ∧ PySem.W.kitOne K t (.ref (He.ga K x)) = some b := by
  cases d with
  | non => cases e; cases (show v = V.non from r); exact ⟨_, .base .non, C.base _ (by decide)⟩
  | bl y => cases e; cases (show v = V.bl y from r); exact ⟨_, .base (.bl _), C.base _ (by decide)⟩
  | int i => cases e; cases (show v = V.int i from r); exact ⟨_, .base (.int _), C.base _ (by decide)⟩
  | str z => cases e; cases (show v = V.str z from r); exact ⟨_, .base (.str _), C.base _ (by decide)⟩
  | cl y ns => cases e
  | dct =>
    cases e
    obtain ⟨a, kvs, rfl, h⟩ := r
    exact ⟨_, .base (.dK h), C.base _ (by decide)⟩
  | tup ds =>
    cases e
    obtain ⟨a, vs, rfl, q, _⟩ := r
    rcases q with (h | ⟨o, h⟩) | ⟨o, its, n, h1, h2, _⟩
    · exact ⟨_, .base (.tup h), C.base _ (by decide)⟩
    · exact ⟨_, .fTuple h, C.base _ (by decide)⟩
    · exact ⟨_, .kTuple h1 h2, C.base _ (by decide)⟩
  | lst ds =>
    cases e
    obtain ⟨a, vs, rfl, q, _⟩ := r
    rcases q with ⟨h | ⟨o, h⟩, _⟩ | ⟨its, n, h1, _, _⟩
    · exact ⟨_, .base (.lst h), C.base _ (by decide)⟩
    · exact ⟨_, .base (.frz h), C.base _ (by decide)⟩
    · exact ⟨_, .kList h1 rfl, C.base _ (by decide)⟩
  | ref i =>
    unfold isCD at e
    simp only at e
    split at e
    · rename_i y ns fs hS
      obtain ⟨a, dx, vs, rfl, m, ha, _, _⟩ := g.ob hS r
      split at e
      · rename_i hy
        cases e
        have hy' : y ∈ subs := by simpa using hy
        obtain ⟨c1, c2, c3⟩ := C.own y (List.mem_append_left _ hy')
        exact ⟨_, .base (.ins ha c1 c2 C.spec C.takes c3), C.sub y hy'⟩
      · split at e
        · rename_i hy
          cases e
          have hy' : y ∈ nos := by simpa using hy
          obtain ⟨c1, c2, c3⟩ := C.own y (List.mem_append_right _ hy')
          exact ⟨_, .base (.ins ha c1 c2 C.spec C.takes c3), C.no y hy'⟩
        · cases e
    · rename_i xs hne hS
      cases e
      have no : isObj xs = false := by
        cases xs with
        | nil => rfl
        | cons z zs =>
          cases z with
          | cl y ns => exact absurd rfl (hne y ns zs)
          | _ => rfl
      obtain ⟨a, e1, m⟩ := r
      obtain ⟨b, o, m', hb, q⟩ := g.at_ i _ hS
      rw [m] at m'; cases m'
      obtain ⟨vs, rfl, _⟩ := Obs.ls no q
      subst e1
      exact ⟨_, .base (.lst hb), C.base _ (by decide)⟩
    · cases e
theorem i_isC {x : Str} {subs nos : List Str} {p p2 : Pos} (hg : Gl X "isinstance") (hm : X.mg "isinstance" = none) (hgx : Gl X x) (hmx : X.mg x = some (.ref (He.ga X.K x))) (C : ClsFacts X.K x subs nos) (ha : PE X a (tE X.K F ia)) (hdx : (x == ("__debug__" : Str)) = false := by decide)
    (he : starEach [a, .Name x p2] X.env = (false, eval a X.env) :: starEach [.Name x p2] X.env := by rfl) (h2 : starEach [.Name x p2] X.env = (false, eval (.Name x p2) X.env) :: starEach [] X.env := by rfl) (hpl : (backTo pos (starEach [.Name x p2] X.env)).any (·.1) = false := by rfl) :
    PE X (.Call (.Name "isinstance" p) [a, .Name x p2] [] pos) (tE X.K F (.isC ia x subs nos)) :=
  PE.weak (pe_callB (r := rIsi X.K) call_isi hg hm PyProof.Rows.boot_isinstance (pa_cons ha (pa_cons (pe_glob (v := .ref (He.ga X.K x)) hgx hmx rfl hdx) pa_nil h2) he) (by decide) (by decide) he hpl) fun σ H Q ⟨ρ, S, μ, d, S', g, r, q, k⟩ => by
    simp only [ev] at q
    split at q
    · cases q
    · rename_i d0 S1 ea
      split at q
      · rename_i b eb
        cases q
        exact ⟨ρ, S, μ, d0, _, g, r, ea, fun v μ1 H1 g1 e1 rv => by
          obtain ⟨t, ty, kt⟩ := rep_type C g1 rv eb
          exact ⟨v, .ref (He.ga X.K x), t, .ref (He.ga X.K x), b, rfl, .own _, ty, kt, k _ _ _ g1 e1 rfl⟩⟩
      · cases q
/-- what the head looks at -/
def clsB (K : PySem.W.Frag) (x : Str) (subs nos : List Str) : Bool :=
  (tyNames.all fun t => PySem.W.kitOne K (.type t) (.ref (He.ga K x)) == some false) && (subs.all fun y => PySem.W.kitOne K (.ref (He.ga K y)) (.ref (He.ga K x)) == some true) && (nos.all fun y => PySem.W.kitOne K (.ref (He.ga K y)) (.ref (He.ga K x)) == some false) &&
  ((subs ++ nos).all fun y => He.Fa.ok K (.cls y) && decide (PySem.W.findIn K (.ref (He.ga K y)) "__class__" = some (some (.builtin "object.__class__"))) && (PySem.W.mroIn K (He.ga K y) (.type "object") == some true)) &&
  decide (PySem.W.specialIn K (.builtin "object.__class__") "__get__" = some (some (.builtin "getset_descriptor.__get__"))) && (PySem.W.takesIn K (.builtin "object.__class__") == some true)
theorem clsB_ok {K : PySem.W.Frag} {x : Str} {subs nos : List Str} (h : clsB K x subs nos = true) : ClsFacts K x subs nos := by
  unfold clsB at h
  simp only [Bool.and_eq_true, List.all_eq_true, decide_eq_true_eq, beq_iff_eq] at h
  obtain ⟨⟨⟨⟨⟨h1, h2⟩, h3⟩, h4⟩, h5⟩, h6⟩ := h
  exact ⟨h1, h2, h3, fun y hy => ⟨He.cls_ok (h4 y hy).1.1, (h4 y hy).1.2, (h4 y hy).2⟩, h5, h6⟩
def rOeq (K : PySem.W.Frag) (F : CF) (fi ar : Nat) (x : Str) (neg : Bool) : R2 := fun v w H Q => ∃ a b dx dy fs gs, v = .ref a ∧ w = .ref b ∧ H a = some (.ins (He.ga K x) dx fs) ∧ H b = some (.ins (He.ga K x) dy gs) ∧ spI K F ar fi [v, w] H (fun r H' => ∃ k, r = .bl k ∧ Q (.bl (k != neg)) H')
theorem op_oeq {fi ar : Nat} {x : Str} (ok : Cok X) (M : MethOk X F fi ar x "__eq__") : OpR X (compareOp .Eq) (rOeq X.K F fi ar x false) := by
  obtain ⟨f, fd, ps, k, hm, hb, hr, G⟩ := M.ex
  intro pins s σ H v w u1 u2 Q I r1 r2 h
  obtain ⟨a, b, dx, dy, fs, gs, rfl, rfl, ha, hb', hsp⟩ := h
  cases r1; cases r2
  obtain ⟨mA, J, _⟩ := ins_get I.hok ha
  obtain ⟨mB, J', _⟩ := ins_get I.hok hb'
  obtain ⟨od, J, _⟩ := J.look
  obtain ⟨od', J', _⟩ := J'.look
  obtain ⟨m, hF⟩ := I.fr
  have hu : X.A.units < cLine := by have := ok.un; omega
  show wpAny (model X.prog X.w) X.A (richCompare .Eq (.ref a) (.ref b)) (EP X pins σ Q) X.xe s
  refine PySem.W.cmp_K (op := .Eq) (tb := .ref (He.ga X.K x)) hu hF I.ok.mod.kin J J'.type (by simp [PySem.W.notFirst]) hm.at_ hm.fn ?_
  have r : Vals [V.ref a, V.ref b] [Value.ref a, Value.ref b] := .cons rfl (.cons rfl .nil)
  have hl : [Value.ref a, Value.ref b].length = ps.length := by have := G.len _ _ _ hsp; exact this
  have hbb := hb s [Value.ref a, Value.ref b] I.kIn (by rw [List.length_append]; exact hl)
  rw [List.append_nil] at hbb
  refine wpAny_mono (wpAny_call (run_I G hr ok.gd I hbb r hsp)) (fun u s' q => ?_) fun _ _ z => z
  obtain ⟨v', H', I', rv, k, rfl, q⟩ := q
  cases rv
  exact ⟨.bl k, H', I', rfl, by rw [Bool.bne_false] at q; exact q⟩
theorem oeq_read {fi ar : Nat} {x : Str} {neg : Bool} (har : ∀ ds S r, F fi ds S = some r → ds.length = ar) {σ : L2.St} {H : Hp} {Q : VK} (h : tE X.K F (.oeq neg x fi ia ib) σ H Q) : tOp (rOeq X.K F fi ar x neg) (tE X.K F ia) (tE X.K F ib) σ H Q := by
  obtain ⟨ρ, S, μ, d, S', g, r, q, k⟩ := h
  simp only [ev] at q
  split at q
  · rename_i i S1 ea
    split at q
    · rename_i j S2 eb
      split at q
      · rename_i hc
        rw [Bool.and_eq_true] at hc
        split at q
        · rename_i t S3 ef
          cases q
          have cl : ∀ {i : Nat}, isCl S2 i x = true → ∃ ns fs, S2[i]? = some (some (.cl x ns :: fs)) := fun {i} hi => by
            unfold isCl at hi
            split at hi
            · rename_i y ns fs e
              rw [of_decide_eq_true hi] at e
              exact ⟨ns, fs, e⟩
            · cases hi
          obtain ⟨n1, f1, e1⟩ := cl hc.1
          obtain ⟨n2, f2, e2⟩ := cl hc.2
          exact two g r ea eb fun v w μ2 H2 g2 ev2 rx ry => by
            obtain ⟨a, dx, vs, rfl, _, ha, _, _⟩ := g2.ob e1 rx
            obtain ⟨b, dy, ws, rfl, _, hb, _, _⟩ := g2.ob e2 ry
            have rs : Reps X.K S2 μ2 H2 [.ref i, .ref j] [.ref a, .ref b] := ⟨_, _, rfl, rx, _, _, rfl, ry, rfl⟩
            exact ⟨a, b, dx, dy, _, _, rfl, rfl, ha, hb, S2, μ2, _, _, _, g2, rs, har _ _ _ ef, ef, fun v' μ3 H3 g3 e3 rd => ⟨t, rd, k _ _ _ g3 (ev2.trans e3) rfl⟩⟩
        · cases q
      · cases q
    · cases q
  · cases q
theorem i_oeq {fi ar : Nat} {x : Str} (ok : Cok X) (M : MethOk X F fi ar x "__eq__") (ha : PE X a (tE X.K F ia)) (hb : PE X b (tE X.K F ib)) (hm : behindInMarks .Eq b = false := by first | exact nobehind _ (by decide) (by decide) | rfl) : PE X (.Compare a [.Eq] [b] pos) (tE X.K F (.oeq false x fi ia ib)) :=
  PE.weak (pe_cmpR (op_oeq ok M) ha hb hm) fun σ H Q h => oeq_read M.ar_ h
theorem t_oeq {fi ar : Nat} {x : Str} (ok : Cok X) (M : MethOk X F fi ar x "__eq__") (ha : PE X a (tE X.K F ia)) (hb : PE X b (tE X.K F ib)) (hm : behindInMarks .Eq b = false := by first | exact nobehind _ (by decide) (by decide) | rfl) : PT X (.Compare a [.Eq] [b] pos) (tT X.K F (.oeq false x fi ia ib)) :=
  PT.weak (pt_cmpR (op_oeq ok M) ha hb hm) fun σ H Q h => oeq_read M.ar_ (tT_tE h)
/-- != : object.__ne__ asks __eq__ -/
theorem ifBound_ne {prog : Program} {w : World} {A : Around} {E : Value → Shared → Prop} {s : Shared} {K : PySem.W.Frag} {x C : Addr} {ox : Obj} {od : Option Obj} {args : List Value} {Q : Option Value → Shared → Prop} (X0 : K.In s.heap) (I : PySem.W.InstAt s.heap x ox C od) (hs : PySem.W.findIn K (.ref C) "__ne__" = some (some (.builtin "object.__ne__")))
    (h : wpAny (model prog w) A (call (.builtin "object.__ne__") (.ref x :: args)) (fun v => Q (some v)) E s) : wpAny (model prog w) A (callSpecialIfBound? (.ref x) "__ne__" args) Q E s := by
  simp only [callSpecialIfBound?, bindSpecialIfBound?]
  refine wpAny_holding (wpAny_bind (wpAny_bind (wpAny_bind (I.type.here ((PySem.W.looks_findIn X0 hs).here ?_)))))
  refine wpAny_bind (wpAny_askSetting (wpAny_ite ?_))
  have fin : wpAny (model prog w) A (call (.builtin "object.__ne__") ([.ref x] ++ args) >>= fun v => pure (some v)) Q E s := wpAny_bind (wpAny_mono h (fun v s' h' => wpAny_pure h') fun _ _ h' => h')
  split
  · exact wpAny_bind (wpAny_of_eq (PySem.F.cmp_object.ne.bind _) (wpAny_pure (by exact fin)))
  · exact wpAny_tryCatch (wpAny_bind (wpAny_of_eq (PySem.F.cmp_object.ne.bind _) (wpAny_pure (by exact fin))))
theorem entry_ne {prog : Program} {w : World} {A : Around} {E : Value → Shared → Prop} {s : Shared} {K : PySem.W.Frag} {x C f : Addr} {y : Value} {ox : Obj} {od : Option Obj} {Q : Fin → Shared → Prop} (hu : A.units < cLine) (X0 : K.In s.heap) (I : PySem.W.InstAt s.heap x ox C od) (hs : PySem.W.findIn K (.ref C) "__eq__" = some (some (.ref f))) (hf : PySem.W.isFn K (.ref f) = true)
    (hcall : wpAny (model prog w) A (call (.ref f) [.ref x, y]) (fun v s' => ∃ b, v = .bool b ∧ Q (.done (.ret (.bool (!b)))) s') E s) :
    wpAny (model prog w) A (Builtin.«object.__ne__» ⟨[.ref x, y], []⟩) Q E s := by
  unfold Builtin.«object.__ne__»
  repeat (first
    | with_reducible refine wpAny_cRoomFor hu ?_
    | (refine wpAny_bind (m := callSpecialIfBound? (.ref x) (Str.ofString "__eq__") [y])
        (PySem.W.ifBound_K X0 I hs hf (wpAny_mono hcall (fun r s' hr => by
          obtain ⟨b, rfl, hq⟩ := hr
          repeat (first | exact hq | exact wpAny_pure hq | exact wpAny_truthy_bool hq | (refine wpAny_bind (m := truthy (.bool _)) (wpAny_truthy_bool ?_)) | wp_step)) fun _ _ e => e)))
    | wp_step)
/-- an own __eq__, one level deeper -/
structure NeOk (X : Cx) (F : CF) (fi ar : Nat) (x : Str) : Prop where
  ar_ : ∀ ds S r, F fi ds S = some r → ds.length = ar
  ex : ∀ ds S r, F fi ds S = some r → ∃ (f : Addr) (fd : FuncData) (ps : List Str) (k : Nat), Meth X.K (He.ga X.K x) "__eq__" f ∧ Binds X.K fd ps [] ∧ Room (k + 1) X.A ∧ FnI X.prog X.w X.K X.mg X.base k f fd ps (spI X.K F ar fi)
theorem op_one {fi ar : Nat} {x : Str} (ok : Cok X) (M : NeOk X F fi ar x) (hne : PySem.W.findIn X.K (.ref (He.ga X.K x)) "__ne__" = some (some (.builtin "object.__ne__"))) (hmr : PySem.W.mroIn X.K (He.ga X.K x) (.type "object") = some true) : OpR X (compareOp .NotEq) (rOeq X.K F fi ar x true) := by
  intro pins s σ H v w u1 u2 Q I r1 r2 h
  obtain ⟨a, b, dx, dy, fs, gs, rfl, rfl, ha, hb', hsp⟩ := h
  have hF : ∃ ds S r, F fi ds S = some r := by
    obtain ⟨S, μ, ds, d, S', _, _, _, hF, _⟩ := id hsp
    exact ⟨ds, S, _, hF⟩
  obtain ⟨ds, S, r0, hF⟩ := hF
  obtain ⟨f, fd, ps, k, hm, hb, hr, G⟩ := M.ex ds S r0 hF
  cases r1; cases r2
  obtain ⟨mA, J, _⟩ := ins_get I.hok ha
  obtain ⟨mB, J', _⟩ := ins_get I.hok hb'
  obtain ⟨od, J, _⟩ := J.look
  obtain ⟨od', J', _⟩ := J'.look
  have hu : X.A.units < cLine := by have := ok.un; omega
  have hu1 : X.A.in1.units < cLine := by have := ok.un; show X.A.units + 1 < cLine; omega
  have r : Vals [V.ref a, V.ref b] [Value.ref a, Value.ref b] := .cons rfl (.cons rfl .nil)
  have hl : [Value.ref a, Value.ref b].length = ps.length := by have := G.len _ _ _ hsp; exact this
  have hbb := hb s [Value.ref a, Value.ref b] I.kIn (by rw [List.length_append]; exact hl)
  rw [List.append_nil] at hbb
  have core : wpAny (model X.prog X.w) X.A.in1 (call (.ref f) [.ref a, .ref b]) (fun v s' => ∃ k, v = .bool k ∧ EP X pins σ Q (.bool (!k)) s') X.xe s := wpAny_mono (wpAny_call (codeAny_mono (G.run X.A.in1 X.stack s H _ _ _ _ hr.in1 ok.gd I.env0.in1 hbb r hsp) fun r s' hq => by
    cases r with
    | error e => exact False.elim hq
    | ok fl =>
      cases fl with
      | ret u => exact I.after hq
      | next => exact False.elim hq
      | brk => exact False.elim hq
      | cont => exact False.elim hq)) (fun u s' q => by
    obtain ⟨v', H', I', rv, k, rfl, q⟩ := q
    cases rv
    exact ⟨k, rfl, .bl (!k), H', I', rfl, by rw [Bool.bne_true] at q; exact q⟩) fun _ _ z => z
  have one : wpAny (model X.prog X.w) X.A (tryCompare (.ref a) "__ne__" (.ref b)) (fun r s' => ∃ k, r = some (.bool (!k)) ∧ EP X pins σ Q (.bool (!k)) s') X.xe s := by
    unfold tryCompare
    refine wpAny_bind (ifBound_ne I.kIn J hne (wpAny_call (codeAny_call_builtin PySem.F.cmp_object.ne.plain PySem.F.cmpEntry_ne (PySem.W.check_slot PySem.F.cmpKind_ne PySem.F.cmpSplit_ne (J.type.andThen (PySem.W.looks_mroIn I.kIn hmr)) (PySem.F.cmpArgs_ne _ _) (entry_ne hu1 I.kIn J hm.at_ hm.fn (wpAny_mono core (fun v s' hv => ?_) fun _ _ e => e))))))
    obtain ⟨k, rfl, q⟩ := hv
    exact ⟨k, rfl, wpAny_pure ⟨k, rfl, q⟩⟩
  show wpAny (model X.prog X.w) X.A (richCompare .NotEq (.ref a) (.ref b)) (EP X pins σ Q) X.xe s
  unfold richCompare
  simp only [oneThing_ref]
  refine wpAny_holding (wpAny_bind (wpAny_cRoomFor hu ?_))
  rw [cmpInfo_NotEq]
  dsimp only
  refine wpAny_bind (J.type.here (wpAny_bind (J'.type.here ?_)))
  rw [show (Value.ref (He.ga X.K x) != Value.ref (He.ga X.K x)) = false from by simp]
  simp only [Bool.false_eq_true, if_false]
  refine wpAny_bind (wpAny_pure ?_)
  simp only [Bool.false_eq_true, if_false]
  refine wpAny_bind (wpAny_mono one (fun r s' z => ?_) fun _ _ e => e)
  obtain ⟨k, rfl, q⟩ := z
  exact wpAny_pure q
theorem i_one_ {fi ar : Nat} {x : Str} (ok : Cok X) (M : NeOk X F fi ar x) (hne : PySem.W.findIn X.K (.ref (He.ga X.K x)) "__ne__" = some (some (.builtin "object.__ne__"))) (hmr : PySem.W.mroIn X.K (He.ga X.K x) (.type "object") = some true) (ha : PE X a (tE X.K F ia)) (hb : PE X b (tE X.K F ib)) (hm : behindInMarks .NotEq b = false := by first | exact nobehind _ (by decide) (by decide) | rfl) : PE X (.Compare a [.NotEq] [b] pos) (tE X.K F (.oeq true x fi ia ib)) :=
  PE.weak (pe_cmpR (op_one ok M hne hmr) ha hb hm) fun σ H Q h => oeq_read M.ar_ h
theorem t_one_ {fi ar : Nat} {x : Str} (ok : Cok X) (M : NeOk X F fi ar x) (hne : PySem.W.findIn X.K (.ref (He.ga X.K x)) "__ne__" = some (some (.builtin "object.__ne__"))) (hmr : PySem.W.mroIn X.K (He.ga X.K x) (.type "object") = some true) (ha : PE X a (tE X.K F ia)) (hb : PE X b (tE X.K F ib)) (hm : behindInMarks .NotEq b = false := by first | exact nobehind _ (by decide) (by decide) | rfl) : PT X (.Compare a [.NotEq] [b] pos) (tT X.K F (.oeq true x fi ia ib)) :=
  PT.weak (pt_cmpR (op_one ok M hne hmr) ha hb hm) fun σ H Q h => oeq_read M.ar_ (tT_tE h)
/-- what != of a class leans on, as the head looks at it -/
def NeFacts (K : PySem.W.Frag) (x : Str) : Prop := PySem.W.findIn K (.ref (He.ga K x)) "__ne__" = some (some (.builtin "object.__ne__")) ∧ PySem.W.mroIn K (He.ga K x) (.type "object") = some true
def neB (K : PySem.W.Frag) (x : Str) : Bool := decide (PySem.W.findIn K (.ref (He.ga K x)) "__ne__" = some (some (.builtin "object.__ne__"))) && (PySem.W.mroIn K (He.ga K x) (.type "object") == some true)
theorem neB_ok {K : PySem.W.Frag} {x : Str} (h : neB K x = true) : NeFacts K x := by
  unfold neB at h
  simp only [Bool.and_eq_true, decide_eq_true_eq, beq_iff_eq] at h
  exact h
end
end Iv

set_option Elab.async false
set_option linter.all false
set_option maxRecDepth 100000
set_option maxHeartbeats 1000000

namespace Iv
open PySem PySem.Spec PyProof.Rows L2
/-- a list or a tuple -/
def SqK (t : Bool) (K : PySem.W.Frag) (H : Hp) (a : Addr) (xs : List V) : Prop := match t with
  | true => SqT K H a xs
  | false => SqL K H a xs
def IsK (t : Bool) (h : Heap) (a : Addr) (its : Array Value) : Prop := match t with
  | true => h.IsTuple a its
  | false => h.IsList a its
def IsKIter (t : Bool) (h : Heap) (i a : Addr) (n : Nat) : Prop := match t with
  | true => h.IsTupleIter i a n
  | false => h.IsListIter i a n
def itO (t : Bool) (a : Addr) : Obj := { cls := .type (if t then "tuple_iterator" else "list_iterator"), data := .fields #[.ref a, .int 0 0] }
theorem draws_k (t : Bool) {prog : Program} {w : World} {A : Around} (hh : A.handled = none) (it l : Addr) (hne : l ≠ it) (items : Array Value) :
    Draws prog w A it [it, l] items.size (fun i v => items[i]? = some v) (fun i h => IsKIter t h it l i ∧ IsK t h l items) := by
  cases t
  · exact Draws.list hh it l hne items
  · exact Draws.tuple hh it l hne items
theorem begins_k (t : Bool) (l : Addr) (items : Array Value) : Begins (.ref l) (itO t l) fun h => IsK t h l items := by
  cases t
  · exact begins_list l items
  · exact begins_tuple l items
theorem look_k {X : Cx} {pins : List (Addr × Obj)} {σ : L2.St} {H : Hp} {s : Shared} {a : Addr} {xs : List V} {t : Bool} (I : Inv X pins σ H s) (h : SqK t X.K H a xs) : ∃ its : List Value, Vals xs its ∧ IsK t s.heap a its.toArray := by
  cases t
  · obtain ⟨its, rv, p, _⟩ := I.list h; exact ⟨its, rv, p.isList⟩
  · obtain ⟨its, rv, p, _⟩ := I.tuple h; exact ⟨its, rv, p⟩
theorem inj_k {X : Cx} {pins : List (Addr × Obj)} {σ : L2.St} {H : Hp} {s : Shared} {a : Addr} {xs ys : List V} {t : Bool} (I : Inv X pins σ H s) (h : SqK t X.K H a xs) (h' : SqK t X.K H a ys) : xs = ys := by
  cases t
  · exact I.list_inj h h'
  · exact I.tuple_inj h h'
theorem IsKIter.obj {t : Bool} {h : Heap} {i a : Addr} {n : Nat} (x : IsKIter t h i a n) : ∃ o, h.get? i = some o ∧ o.cls = .type (if t then "tuple_iterator" else "list_iterator") ∧ o.data = .fields #[.ref a, .int n 0] := by
  cases t <;> exact x
theorem IsKIter.at_ {t : Bool} {h h' : Heap} {i a : Addr} {n : Nat} (x : IsKIter t h i a n) (k : ∀ o, h.get? i = some o → h'.get? i = some o) : IsKIter t h' i a n := by
  cases t
  · exact Heap.IsListIter.at x k
  · exact Heap.IsTupleIter.at x k
theorem IsK.lt {t : Bool} {h : Heap} {a : Addr} {its : Array Value} (x : IsK t h a its) : a < h.objs.size := by
  cases t <;> exact (let ⟨_, e, _⟩ := x; Heap.lt_size e)
theorem neIt {t : Bool} {h : Heap} {i a b : Addr} {n : Nat} {its : Array Value} (x : IsKIter t h i b n) (y : IsK t h a its) : a ≠ i := fun q => by
  subst q
  cases t
  · obtain ⟨o, e, c1, _⟩ := x
    obtain ⟨o2, e2, c2, _⟩ := y
    rw [e] at e2; cases e2
    rw [c1] at c2
    injection c2 with c3
    exact absurd c3 (by decide)
  · obtain ⟨o, e, c1, _⟩ := x
    obtain ⟨o2, e2, c2, _⟩ := y
    rw [e] at e2; cases e2
    rw [c1] at c2
    injection c2 with c3
    exact absurd c3 (by decide)
/-- two of them side by side -/
def ItG (t1 t2 : Bool) (K : PySem.W.Frag) (a b : Addr) : It :=
  ⟨fun i H => ∃ (xs ys : List V) (x y : V), SqK t1 K H a xs ∧ SqK t2 K H b ys ∧ xs[i]? = some x ∧ ys[i]? = some y,
   fun i H v H' => ∃ T x y, v = .ref T ∧ H T = none ∧ H' = upd H T (.tup [x, y]) ∧ (∀ xs, SqK t1 K H a xs → xs[i]? = some x) ∧ (∀ ys, SqK t2 K H b ys → ys[i]? = some y),
   fun i H => ∃ xs ys : List V, SqK t1 K H a xs ∧ SqK t2 K H b ys ∧ i ≤ xs.length ∧ i ≤ ys.length ∧ (i = xs.length ∨ i = ys.length)⟩
/-- how the zip stands behind i turns -/
def StG (t1 t2 : Bool) (z TI TO i1 i2 a b : Addr) (i : Nat) (h : Heap) : Prop := IsZip h z TI TO .none ∧ IsTupOf2 h TI (.ref i1) (.ref i2) ∧ (∃ x y, IsTupOf2 h TO x y) ∧ IsKIter t1 h i1 a i ∧ IsKIter t2 h i2 b i
theorem turnG {t1 t2 : Bool} {P : Program} {w : World} {K : PySem.W.Frag} {elts : List Expr} {kk : Nat} {tpos : Pos} {a b z TI TO i1 i2 : Addr} (D : ZipSep2 z TI TO i1 i2 [i1, a] [i2, b]) :
    Turn P w K (.Tuple elts kk tpos) (ItG t1 t2 K a b) [z, TI, TO, i1, i2] z (StG t1 t2 z TI TO i1 i2 a b) where
  mem := List.mem_cons_self
  obj := fun i h ⟨hz, hTI, ⟨x, y, hTO⟩, h1, h2⟩ c hc => by
    obtain ⟨o1, e1, _, d1⟩ := h1.obj
    obtain ⟨o2, e2, _, d2⟩ := h2.obj
    exact cases5 (P := fun c => ∃ o, h.get? c = some o ∧ ∀ v, o.data ≠ .cell v) hc ⟨_, hz, fun v q => nomatch q⟩ ⟨_, hTI, fun v q => nomatch q⟩ ⟨_, hTO, fun v q => nomatch q⟩ ⟨o1, e1, fun v q => by rw [d1] at q; cases q⟩ ⟨o2, e2, fun v q => by rw [d2] at q; cases q⟩
  keep := fun i h h' ⟨hz, hTI, ⟨x, y, hTO⟩, h1, h2⟩ k =>
    ⟨k z (by simp) _ hz, k TI (by simp) _ hTI, ⟨x, y, k TO (by simp) _ hTO⟩, h1.at_ fun o q => k i1 (by simp) o q, h2.at_ fun o q => k i2 (by simp) o q⟩
  item := by
    intro X hP hw hK hc i pins s σ H E I hf ⟨hz, hTI, ⟨x0, y0, hTO⟩, h1, h2⟩ ⟨xs, ys, x, y, qx, qy, hx, hy⟩
    subst hP hw hK
    obtain ⟨its, rv, p⟩ := look_k I qx
    obtain ⟨its2, rv2, p2⟩ := look_k I qy
    obtain ⟨u, hu, ru⟩ := rv.get hx
    obtain ⟨u2, hu2, ru2⟩ := rv2.get hy
    have lt1 : i < its.toArray.size := by rw [List.size_toArray]; exact (List.getElem?_eq_some_iff.mp hu).1
    have lt2 : i < its2.toArray.size := by rw [List.size_toArray]; exact (List.getElem?_eq_some_iff.mp hu2).1
    have zl : z < s.heap.objs.size := Heap.lt_size hz
    have na : a ≠ i1 := neIt h1 p
    have nb : b ≠ i2 := neIt h2 p2
    refine wpAny_pyNext_zipD2_item D (draws_k t1 (A := X.A.in1) (I.ok.hd hc) i1 a na its.toArray) (draws_k t2 (A := X.A.in1) (I.ok.hd hc) i2 b nb its2.toArray) hz hTI hTO ⟨h1, p⟩ ⟨h2, p2⟩ lt1 lt2 fun y1 y2 h' tk hy1 hy2 z' TO' st1 st2 hT hsz hk => ?_
    have ey1 : u = y1 := by
      rw [List.getElem?_toArray] at hy1
      rw [hu] at hy1
      exact Option.some.inj hy1
    have ey2 : u2 = y2 := by
      rw [List.getElem?_toArray] at hy2
      rw [hu2] at hy2
      exact Option.some.inj hy2
    subst ey1 ey2
    refine ⟨_, rfl, wpAny_letOwnedTupleGo_zip (s := { s with heap := h', toks := tk }) z' fun h2' z2' sb => ?_⟩
    have hT2 : IsTupOf2 h2' s.heap.objs.size u u2 := (sb.2 _ (Nat.ne_of_gt zl)).trans hT
    have ok2 : ObjOk X.prog X.w (upd H s.heap.objs.size (.tup [x, y])) h2' s.heap.objs.size (.tup [x, y]) := ⟨(by decide : 2 ≤ sizeLine), [u, u2], .cons ru (.cons ru2 .nil), _, hT2, rfl, _, rfl⟩
    have J : Inv X pins σ (upd H s.heap.objs.size (.tup [x, y])) { s with heap := h2', toks := tk } :=
      I.turnedNew (t' := tk) (ch := [z, TI, TO, i1, i2]) (fun c o hb q => by
        simp only [List.mem_cons, List.not_mem_nil, or_false, not_or] at hb
        exact (sb.2 c hb.1).trans (hk c o hb.1 hb.2.2.1 hb.2.2.2.1 hb.2.2.2.2 q)) hf (Nat.le_refl _) ok2
    refine ⟨.ref s.heap.objs.size, _, J, rfl, ⟨_, x, y, rfl, I.hok.fresh (Nat.le_refl _), rfl, fun l hl => (inj_k I hl qx) ▸ hx, fun l hl => (inj_k I hl qy) ▸ hy⟩, ?_, fun c hc => ?_⟩
    · exact ⟨z2', (sb.2 _ D.TIz).trans (hk _ _ D.TIz D.TITO D.TIi1 D.TIi2 hTI), ⟨u, u2, (sb.2 _ D.TOz).trans TO'⟩, st1.1.at_ fun o q => (sb.2 _ D.zi1.symm).trans q, st2.1.at_ fun o q => (sb.2 _ D.zi2.symm).trans q⟩
    · have hlt : c < s.heap.objs.size := by
        obtain ⟨_, e1, _⟩ := h1.obj
        obtain ⟨_, e2, _⟩ := h2.obj
        exact cases5 (P := fun c => c < s.heap.objs.size) hc zl (Heap.lt_size hTI) (Heap.lt_size hTO) (Heap.lt_size e1) (Heap.lt_size e2)
      rw [upd_ne (Nat.ne_of_lt hlt)]
      exact (hf c hc).1
  done := by
    intro X hP hw hK hc i pins s σ H E I hf ⟨hz, hTI, ⟨x0, y0, hTO⟩, h1, h2⟩ ⟨xs, ys, qx, qy, l1, l2, he⟩
    subst hP hw hK
    obtain ⟨its, rv, p⟩ := look_k I qx
    obtain ⟨its2, rv2, p2⟩ := look_k I qy
    have n1 := rv.length
    have n2 := rv2.length
    have na : a ≠ i1 := neIt h1 p
    have nb : b ≠ i2 := neIt h2 p2
    refine wpAny_pyNext_zipD2_end D (draws_k t1 (A := X.A.in1) (I.ok.hd hc) i1 a na its.toArray) (draws_k t2 (A := X.A.in1) (I.ok.hd hc) i2 b nb its2.toArray) hz hTI hTO ⟨h1, p⟩ ⟨h2, p2⟩ (by rw [List.size_toArray]; omega) (by rw [List.size_toArray]; omega) (by rw [List.size_toArray, List.size_toArray]; omega) fun h' tk hk => ⟨rfl, ?_⟩
    exact I.turnedL (t' := tk) (ch := [z, TI, TO, i1, i2]) (fun c o hb q => by
      simp only [List.mem_cons, List.not_mem_nil, or_false, not_or] at hb
      exact hk c o hb.1 hb.2.2.1 hb.2.2.2.1 hb.2.2.2.2 q) hf
  self := fun A i s Q E st h => wpAny_pyIter_zip st.1 h
def iZipG (K : PySem.W.Frag) (ta : TA) : TI := fun σ H R => ta σ H fun vs H1 => ∃ t1 t2 a b xs ys, vs = [.ref a, .ref b] ∧ SqK t1 K H1 a xs ∧ SqK t2 K H1 b ys ∧ R (ItG t1 t2 K a b) H1
theorem pi_zipG {X : Cx} {e e2 : Expr} {ta : TA} {p pos tpos : Pos} {elts : List Expr} {kk : Nat} (hg : Gl X "zip") (hm : X.mg "zip" = none) (ha : PA X [e, e2] ta) (hs : starEach [e, e2] X.env = (false, eval e X.env) :: starEach [e2] X.env := by rfl)
    (hpl : (backTo pos (starEach [e2] X.env)).any (·.1) = false := by rfl) : PI X (.Tuple elts kk tpos) (.Call (.Name "zip" p) [e, e2] [] pos) (iZipG X.K ta) := by
  refine ⟨fun pins s σ H R I h => Call_ (ld_blt I hg hm PyProof.Rows.boot_zip (PyProof.Rows.callWith_type1 (thn (ha.run pos pins s σ H _ I h) fun us s1 ⟨vs, H1, J, r1, q1⟩ => ?_) hs hpl))⟩
  obtain ⟨t1, t2, a, b, xs, ys, rfl, qx, qy, q⟩ := q1
  cases r1 with
  | cons ra rr => cases rr with
    | cons rb rr =>
      cases rr; cases ra; cases rb
      obtain ⟨its, rv, p1⟩ := look_k J qx
      obtain ⟨its2, rv2, p2⟩ := look_k J qy
      have la : a < s1.heap.objs.size := p1.lt
      have lb : b < s1.heap.objs.size := p2.lt
      refine zip_begins2 (begins_k t1 a its.toArray) (begins_k t2 b its2.toArray) p1 p2 fun h' hz hTI hTO g1 g2 hsz hk => wpAny_pyIter_zip hz ?_
      have J2 : Inv X pins σ H1 { s1 with heap := h' } := J.kept (t' := s1.toks) hk
      have h1 : IsKIter t1 h' s1.heap.objs.size a 0 := by cases t1 <;> exact ⟨_, g1, rfl, rfl⟩
      have h2 : IsKIter t2 h' (s1.heap.objs.size + 1) b 0 := by cases t2 <;> exact ⟨_, g2, rfl, rfl⟩
      have fr : ∀ c, s1.heap.objs.size ≤ c → FpOk X pins H1 c := fun c hc => J.fpOk hc (J.hok.fresh hc)
      exact ⟨s1.heap.objs.size + 4, _, _, _, H1, rfl, J2, turnG (sep5 la lb), ⟨hz, hTI, ⟨_, _, hTO⟩, h1, h2⟩, fun c hc => cases5 (P := FpOk X pins H1) hc (fr _ (by omega)) (fr _ (by omega)) (fr _ (by omega)) (fr _ (by omega)) (fr _ (by omega)), q⟩

section
variable {X : Cx} {F : CF} {ia ib : E} {a b : Expr} {pos : Pos}
theorem walk_zipG {K : PySem.W.Frag} {S : Sto} {μ : Mu} {H : Hp} {a b : Addr} {vs ws : List V} {xs ys : List D} {t1 t2 : Bool} (q : ∀ S' μ' H', Good K S' μ' H' → EvoW S μ H S' μ' H' → SqK t1 K H' a vs) (g : Good K S μ H) (r : Reps K S μ H xs vs) (q2 : ∀ S' μ' H', Good K S' μ' H' → EvoW S μ H S' μ' H' → SqK t2 K H' b ws) (r2 : Reps K S μ H ys ws) :
    Walk K S μ H (ItG t1 t2 K a b) ((xs.zip ys).map fun p => .tup [p.1, p.2]) := fun S' μ' H' g' e' => by
  have qa := q S' μ' H' g' e'
  have qb := q2 S' μ' H' g' e'
  have ra := r.mono g e'
  have rb := r2.mono g e'
  have hz : ((xs.zip ys).map fun p => D.tup [p.1, p.2]).length = min xs.length ys.length := by rw [List.length_map, List.length_zip]
  have lv := r.length
  have lw := r2.length
  refine ⟨fun i hi => ?_, ⟨vs, ws, qa, qb, by omega, by omega, by omega⟩, fun i v H2 hi y => ?_⟩
  · rw [hz] at hi
    obtain ⟨v, hv, _⟩ := r.get (List.getElem?_eq_getElem (show i < xs.length by omega))
    obtain ⟨w, hw, _⟩ := r2.get (List.getElem?_eq_getElem (show i < ys.length by omega))
    exact ⟨vs, ws, v, w, qa, qb, hv, hw⟩
  · rw [hz] at hi
    obtain ⟨T, x, y', rfl, hT, rfl, h1, h2⟩ := y
    have hi1 : i < xs.length := by omega
    have hi2 : i < ys.length := by omega
    obtain ⟨v, hv, rv⟩ := ra.get (List.getElem?_eq_getElem hi1)
    obtain ⟨w, hw, rw'⟩ := rb.get (List.getElem?_eq_getElem hi2)
    have e1 := h1 vs qa
    have e2 := h2 ws qb
    rw [hv] at e1; cases e1
    rw [hw] at e2; cases e2
    refine ⟨.tup [xs[i], ys[i]], ?_, good_new g' hT, evo_new g' hT, rep_tup_new g' hT ⟨_, _, rfl, rv, _, _, rfl, rw', rfl⟩⟩
    rw [List.getElem?_map, List.getElem?_eq_getElem (by rw [List.length_zip]; omega), List.getElem_zip]
    rfl
theorem seq_k {K : PySem.W.Frag} {S : Sto} {μ : Mu} {H : Hp} {d : D} {xs : List D} {v : V} (g : Good K S μ H) (e : seqD d = some xs) (r : Rep K S μ H d v) : ∃ t a vs, v = .ref a ∧ Reps K S μ H xs vs ∧ SqK t K H a vs ∧ ∀ S' μ' H', Good K S' μ' H' → EvoW S μ H S' μ' H' → SqK t K H' a vs := by
  cases d with
  | lst ds =>
    cases e
    obtain ⟨a, vs, rfl, q, rs⟩ := r
    refine ⟨false, a, vs, rfl, rs, SqP.l (q.elim (fun z => .inl z.1) .inr), fun S' μ' H' g' e' => ?_⟩
    rcases q with q | q
    · exact .inl (rdL e' q.1 q.2).1
    · exact SqP.l (.inr q)
  | tup ds =>
    cases e
    obtain ⟨a, vs, rfl, q, rs⟩ := r
    exact ⟨true, a, vs, rfl, rs, q, fun S' μ' H' g' e' => sqT_mono g e' q⟩
  | _ => cases e
theorem it_zipG {elts : List Expr} {kk : Nat} {p tpos : Pos} (hg : Gl X "zip") (hm : X.mg "zip" = none) (ha : PE X a (tE X.K F ia)) (hb : PE X b (tE X.K F ib)) (hs : starEach [a, b] X.env = (false, eval a X.env) :: starEach [b] X.env := by rfl) (hs2 : starEach [b] X.env = (false, eval b X.env) :: starEach [] X.env := by rfl)
    (hpl : (backTo pos (starEach [b] X.env)).any (·.1) = false := by rfl) : PI X (.Tuple elts kk tpos) (.Call (.Name "zip" p) [a, b] [] pos) (tI X.K F (.zipG ia ib)) :=
  PI.weak (pi_zipG hg hm (a_cons ha (a_cons hb a_nil hs2) hs) hs hpl) fun σ H R ⟨ρ, S, μ, d, S', xs, g, r, q, hi, k⟩ => by
    simp only [ev] at q
    split at q
    · cases q
    · rename_i d1 S1 ea
      split at q
      · cases q
      · rename_i d2 S2 eb
        split at q
        · rename_i as bs e1 e2
          cases q
          cases hi
          refine ⟨ρ, S, μ, [d1, d2], S', g, r, by simp only [evs, ea, eb], fun vs μ1 H1 g1 ev1 rv => ?_⟩
          obtain ⟨v, ws, rfl, hv, hw⟩ := rv
          obtain ⟨w, rfl, hw2⟩ := reps1 hw
          obtain ⟨t1, p1, vs, rfl, ra, qa, qa'⟩ := seq_k g1 e1 hv
          obtain ⟨t2, p2, ws, rfl, rb, qb, qb'⟩ := seq_k g1 e2 hw2
          exact ⟨t1, t2, p1, p2, vs, ws, rfl, qa, qb, k _ μ1 H1 g1 ev1 (walk_zipG qa' g1 ra qb' rb)⟩
        · cases q
end
end Iv

set_option Elab.async false
set_option linter.all false
set_option maxRecDepth 100000
set_option maxHeartbeats 1000000
namespace Iv
open PySem PySem.Spec PyProof.Rows L2
section
variable {X : Cx} {F : CF} {ia ie : E} {a : Expr} {tg : Expr} {pos : Pos}
theorem look_at {K : PySem.W.Frag} {S1 S : Sto} {μ1 μ : Mu} {H1 H : Hp} {j p k : Nat} {r : Option D} (g1 : Good K S1 μ1 H1) (g : Good K S μ H) (e : EvoW S1 μ1 H1 S μ H) (hp : Rep K S1 μ1 H1 (.ref j) (.ref p)) (h : look S j k = some r) : ∃ (vs : List V) (xs : List D), SqL K H p vs ∧ Reps K S μ H xs vs ∧ r = xs[k]? := by
  unfold look at h
  split at h
  · rename_i ys hS
    split at h
    · cases h
    · rename_i no
      cases h
      obtain ⟨b, e1, m⟩ := hp.mono g1 e
      cases e1
      obtain ⟨b, o, m', hb, q⟩ := g.at_ j ys hS
      rw [m] at m'; cases m'
      obtain ⟨vs, rfl, rs⟩ := Obs.ls (Bool.eq_false_iff.mpr no) q
      exact ⟨vs, ys, .inl (.inl hb), rs, rfl⟩
  · cases h
def tIP (K : PySem.W.Frag) (F : CF) (ie : E) : TI := fun σ H R => tI K F ie σ H R ∨ ∃ (ρ : Env) (S : Sto) (μ : Mu) (j : Nat) (S' : Sto), Good K S μ H ∧ RelS K S μ H ρ σ ∧ ev F ie ρ S = some (.ref j, S') ∧ (∃ r, look S' j 0 = some r) ∧
  ∀ p μ' H', Good K S' μ' H' → Evo S μ H S' μ' H' → Rep K S' μ' H' (.ref j) (.ref p) → R (Itl K p) H'
theorem it_p (ha : PE X a (tE X.K F ia)) : PI X tg a (tIP X.K F ia) := by
  refine ⟨fun pins s σ H R I h => ?_⟩
  rcases h with h | ⟨ρ, S, μ, j, S', g, r, q, ⟨r0, hl⟩, k⟩
  · exact (it_e ha).run pins s σ H R I h
  · refine (pi_list ha).run pins s σ H R I ⟨ρ, S, μ, _, S', g, r, q, fun v μ1 H1 g1 e1 rv => ?_⟩
    obtain ⟨p, rfl, m⟩ := id rv
    obtain ⟨vs, xs, qs, _⟩ := look_at g1 g1 (Evo.refl _ _ _).w rv hl
    exact ⟨p, rfl, ⟨vs, qs⟩, k p _ _ g1 e1 rv⟩
/-- how a comprehension over a place stands -/
def WP (K : PySem.W.Frag) (S1 : Sto) (μ1 : Mu) (H1 : Hp) (L : Addr) (f : D → Sto → Option (Option D × Sto)) (j : Nat) (ys : List D) (S2 : Sto) (i m : Nat) (H2 : Hp) : Prop :=
  ∃ (acc : List D) (vs : List V) (S2' : Sto) (μ2 : Mu), H2 L = some (.lst vs) ∧ μ2.z = L :: μ1.z ∧ Good K S2' μ2 H2 ∧ EvoW S1 μ1 H1 S2' μ2 H2 ∧ (∀ a ∈ μ1.z, ∀ o, H1 a = some o → H2 a = some o) ∧
      Reps K S2' μ2 H2 acc vs ∧ acc.length ≤ 100000 ∧ compPRun f j m i acc S2' = some (ys, S2)
theorem compP_read {K : PySem.W.Frag} {t : Tg} {tt : TT} {te : TE} {mt : Bool} {f : D → Sto → Option (Option D × Sto)} {σ : L2.St} {H : Hp} {Q : VK} {ρ : Env} {S S1 S2 S' : Sto} {μ : Mu} {d : D} {ys : List D} {j N0 : Nat} (g : Good K S μ H) (r : RelS K S μ H ρ σ) (ea : ev F ia ρ S = some (.ref j, S1))
    (hf : StepOk K ρ t tt te f) (er : compPRun f j N0 0 [] S1 = some (ys, S2)) (em : mkList mt ys S2 = some (d, S')) (k : ContS K S μ H S' d Q) : tLc (tIP K F ia) (gT K t) tt te (slotsT t) σ H Q := by
  have lk : ∃ r, look S1 j 0 = some r := by
    cases N0 with
    | zero => cases er
    | succ n =>
      unfold compPRun at er
      split at er
      · cases er
      · rename_i q; exact ⟨_, q⟩
      · rename_i q; exact ⟨_, q⟩
  refine .inr ⟨ρ, S, μ, j, S1, g, r, ea, lk, fun p μ1 H1 g1 e1 hp L hD => ?_⟩
  have nD : L ∉ μ1.z := fun z => by
    obtain ⟨ws, q⟩ := g1.zl L z
    rw [hD] at q; cases q
  refine ⟨WP K S1 μ1 H1 L f j ys S2, ⟨N0, [], [], S1, μ1.hold L, upd_same, rfl, good_begin g1 hD, evoW_begin g1 hD, fun a ha o q => by rw [upd_ne (ne_of_none q hD)]; exact q, rfl, by simp, er⟩, ?_⟩
  rintro i m H2 ⟨acc, vs, S3, μ3, hL, hz, g3, e3, hh, ra, hal, ec⟩
  have hDz : L ∈ μ3.z := by rw [hz]; exact List.mem_cons_self
  cases m with
  | zero => cases ec
  | succ m =>
  unfold compPRun at ec
  split at ec
  · cases ec
  · -- the end
    rename_i hl
    cases ec
    obtain ⟨us, xs, qs, rs, hx⟩ := look_at g1 g3 e3 hp hl
    refine .inl ⟨⟨us, qs, by rw [← rs.length]; exact List.getElem?_eq_none_iff.mp hx.symm⟩, ?_⟩
    obtain ⟨ps, zz⟩ := μ3
    have hz' : zz = L :: μ1.z := hz
    subst hz'
    have hold2 : ∀ a o, a ∈ μ.z → H a = some o → H2 a = some o := fun a o ha q => hh a (by rw [e1.z]; exact ha) o (e1.hold a o ha q)
    unfold mkList at em
    cases mt with
    | false =>
      rw [if_neg Bool.false_ne_true] at em
      cases em
      have ge : Good K S2 ⟨ps, μ1.z⟩ H2 := good_end (p := L) g3
      have ee : EvoW S2 ⟨ps, L :: μ1.z⟩ H2 S2 ⟨ps, μ1.z⟩ H2 := evoW_end (μ := ⟨ps, μ1.z⟩) (p := L)
      refine k (.ref L) ⟨ps, μ1.z⟩ H2 ge ⟨(e1.w.trans e3).trans ee, e1.z, hold2⟩ ⟨L, vs, rfl, .inl ⟨.inl hL, fun l => ?_⟩, ra.mono g3 ee⟩
      rcases l with l | l
      · exact g3.zn L List.mem_cons_self l
      · exact nD l
    | true =>
      rw [if_pos rfl] at em
      cases em
      obtain ⟨ge, ee⟩ := good_place (μ := ⟨ps, μ1.z⟩) (p := L) g3 nD hL ra
      exact k (.ref L) _ H2 ge ⟨(e1.w.trans e3).trans ee, e1.z, hold2⟩ ⟨L, rfl, get_last (l := ps) (x := L) g3.len⟩
  · -- a turn
    rename_i dd hl
    obtain ⟨us, xs, qs, rs, hx⟩ := look_at g1 g3 e3 hp hl
    obtain ⟨v0, hv0, r4⟩ := rs.get hx.symm
    refine .inr ⟨⟨us, v0, qs, hv0⟩, WP K S1 μ1 H1 L f j ys S2 (i + 1) m, fun H' h' => ⟨m, Nat.lt_succ_self _, h'⟩, fun v H4 hy => ?_⟩
    obtain ⟨rfl, hy⟩ := hy
    have hvv := hy us qs
    rw [hv0] at hvv
    cases hvv
    have base : RelS K S3 μ3 H4 ρ σ := (r.mono g e1.w).mono g1 e3
    have turn : ∀ o S5, f dd S3 = some (o, S5) → (match o with | none => compPRun f j m (i + 1) acc S5 = some (ys, S2) | some y => small (acc.length + 1) = true ∧ compPRun f j m (i + 1) (acc ++ [y]) S5 = some (ys, S2)) →
        gT K t v0 (wipe σ (slotsT t)) H4 fun σ2 H5 => wipe σ2 (slotsT t) = wipe σ (slotsT t) ∧ tt σ2 H5 fun b H6 => if b = true then te σ2 H6 fun y H7 => ∃ acc, H7 L = some (.lst acc) ∧ acc.length < sizeLine ∧ WP K S1 μ1 H1 L f j ys S2 (i + 1) m (upd H7 L (.lst (acc ++ [y]))) else WP K S1 μ1 H1 L f j ys S2 (i + 1) m H6 := by
      intro o S5 ef hrest
      obtain ⟨ρ', st, fin⟩ := hf dd S3 S5 o ef
      refine ⟨dd, _, ρ', S3, μ3, g3, rels_wipe base, r4, st, fun σ2 r2 l2 n2 => ⟨wipe_eq (by rw [l2, wipe_length]) n2, ?_⟩⟩
      refine fin μ3 H4 σ2 _ _ g3 r2 fun μ5 H5 g5 e45 => ?_
      have hz5 : μ5.z = L :: μ1.z := by rw [e45.z, hz]
      have hL5 : H5 L = some (.lst vs) := e45.hold L _ hDz hL
      have hh5 : ∀ a ∈ μ1.z, ∀ o, H1 a = some o → H5 a = some o := fun a ha o q => e45.hold a _ (by rw [hz]; exact List.mem_cons_of_mem _ ha) (hh a ha o q)
      cases o with
      | none => exact ⟨acc, vs, S5, μ5, hL5, hz5, g5, e3.trans e45.w, hh5, ra.mono g3 e45.w, hal, hrest⟩
      | some y =>
        intro w rw'
        have hD5 : L ∈ μ5.z := by rw [hz5]; exact List.mem_cons_self
        have eg := evoW_grow (S := S5) (H := H5) (o := .lst (vs ++ [w])) hD5
        have rv := ra.mono g3 e45.w
        refine ⟨vs, hL5, by rw [← rv.length, sizeLine_eq]; omega, acc ++ [y], vs ++ [w], S5, μ5, upd_same, hz5, good_grow g5 hD5, (e3.trans e45.w).trans eg, fun a ha o q => ?_, (rv.mono g5 eg).append ⟨w, [], rfl, rw'.mono g5 eg, rfl⟩, ?_, hrest.2⟩
        · rw [upd_ne fun z => nD (by rw [← z]; exact ha)]
          exact hh5 a ha o q
        · have := small_le hrest.1
          rw [List.length_append]
          exact this
    split at ec
    · cases ec
    · rename_i S5 ef
      exact turn none S5 ef ec
    · rename_i y S5 ef
      split at ec
      · rename_i hsm
        exact turn (some y) S5 ef ⟨hsm, ec⟩
      · cases ec
theorem lcP_plain {K : PySem.W.Frag} {mt : Bool} {t : Tg} {σ : L2.St} {H : Hp} {Q : VK} (h : tE K F (.compP mt t ia ie) σ H Q) : tLc (tIP K F ia) (gT K t) tYes (tE K F ie) (slotsT t) σ H Q := by
  obtain ⟨ρ, S, μ, d, S', g, r, q, k⟩ := h
  simp only [ev] at q
  split at q
  · rename_i j S1 ea
    split at q
    · cases q
    · rename_i ys S2 er
      exact compP_read g r ea step_plain er q k
  · rename_i x S1 hne ea
    split at q
    · cases q
    · rename_i xs hx
      split at q
      · cases q
      · rename_i ys S2 er
        exact .inl (comp_read g r ea hx step_plain er q k)
  · cases q
theorem i_compP {mt : Bool} {t : Tg} {elt tg iter : Expr} {scope : Scope} {own : List (Str × Nat)} (ok : Cok X) (hs : own.map (·.2) = slotsT t) (hi : PI X tg iter (tIP X.K F ia)) (bk : BlkOk X.N X.env.scope scope own)
    (hg : ∀ s H C cl fp, PG (Blk X scope s H C cl fp) tg (gT X.K t)) (he : ∀ s H C cl fp, PE (Blk X scope s H C cl fp) elt (tE X.K F ie)) (hf : ∀ x, foldedSetIterable iter X.env x = pure x := by intro _; rfl) :
    PE X (.ListComp elt [⟨tg, iter, [], 0⟩] scope pos) (tE X.K F (.compP mt t ia ie)) :=
  PE.weak (pe_lc ok.calm ok.nd hi bk hg (fun _ _ _ _ _ => pts_nil) he hf) fun σ H Q h => by rw [hs]; exact lcP_plain h
variable {w : Nat} {sts : List Stmt} {iss : Ss}
theorem s_forP {t : Tg} {iter : Expr} (ok : Cok X) (hp : PassesOwn (model X.prog X.w) X.A X.env X.xe) (hi : PI X tg iter (tIP X.K F ia)) (hg : PG X tg (gT X.K t)) (hb : PSs X sts (tSs X.K F w iss)) (hf : ∀ x, foldedSetIterable iter X.env x = pure x := by intro _; rfl) :
    PS X (.For tg iter sts [] pos) (tS X.K F w (.forP t ia iss)) := PS.weak (ps_for hp ok.calm hi hg hb hf) fun D σ H ⟨ρ, S, μ, o, S', g, r, q, k⟩ => by
  simp only [ex] at q
  split at q
  · rename_i j S1 e1
    have lk : ∃ r, look S1 j 0 = some r := by
      cases w with
      | zero => cases q
      | succ n =>
        unfold forPRun at q
        split at q
        · cases q
        · rename_i hq; exact ⟨_, hq⟩
        · rename_i hq; exact ⟨_, hq⟩
    refine .inr ⟨ρ, S, μ, j, S1, g, r, e1, lk, fun p μ1 H1 g1 ev1 rp => ?_⟩
    refine ⟨fun i m σ2 H2 => ∃ (ρ2 : Env) (S2 : Sto) (μ2 : Mu), Good X.K S2 μ2 H2 ∧ Evo S1 μ1 H1 S2 μ2 H2 ∧ RelS X.K S2 μ2 H2 ρ2 σ2 ∧ forPRun t (fun ρ S => exs F w iss ρ S) j m i ρ2 S2 = some (o, S'),
      ⟨w, ρ, S1, μ1, g1, Evo.refl _ _ _, r.mono g ev1.w, q⟩, ?_⟩
    rintro i m σ2 H2 ⟨ρ2, S2, μ2, g2, ev2, r2, ec⟩
    cases m with
    | zero => cases ec
    | succ m =>
    unfold forPRun at ec
    split at ec
    · cases ec
    · rename_i hl
      cases ec
      obtain ⟨us, xs, qs, rs, hx⟩ := look_at g1 g2 ev2.w rp hl
      exact .inl ⟨⟨us, qs, by rw [← rs.length]; exact List.getElem?_eq_none_iff.mp hx.symm⟩, k σ2 μ2 H2 g2 (ev1.trans ev2) r2⟩
    · rename_i dd hl
      obtain ⟨us, xs, qs, rs, hx⟩ := look_at g1 g2 ev2.w rp hl
      obtain ⟨v0, hv0, r4⟩ := rs.get hx.symm
      refine .inr ⟨⟨us, v0, qs, hv0⟩, _, fun σ' H' h' => ⟨m, Nat.lt_succ_self _, h'⟩, fun v H4 hy => ?_⟩
      obtain ⟨rfl, hy⟩ := hy
      have hvv := hy us qs
      rw [hv0] at hvv
      cases hvv
      split at ec
      · cases ec
      · rename_i ρ3 st
        refine ⟨dd, ρ2, ρ3, S2, μ2, g2, r2, r4, st, fun σ3 r3 _ _ => ?_⟩
        split at ec
        · cases ec
        · rename_i ρ4 S4 eb
          exact ⟨ρ3, S2, μ2, _, S4, g2, r3, eb, fun σ5 μ5 H5 g5 ev5 r5 => ⟨ρ4, S4, μ5, g5, ev2.trans ev5, r5, ec⟩⟩
        · rename_i ρ4 S4 eb
          exact ⟨ρ3, S2, μ2, _, S4, g2, r3, eb, fun σ5 μ5 H5 g5 ev5 r5 => ⟨ρ4, S4, μ5, g5, ev2.trans ev5, r5, ec⟩⟩
        · rename_i ρ4 S4 eb
          cases ec
          exact ⟨ρ3, S2, μ2, _, _, g2, r3, eb, fun σ5 μ5 H5 g5 ev5 r5 => k σ5 μ5 H5 g5 (ev1.trans (ev2.trans ev5)) r5⟩
        · rename_i d4 S4 eb
          cases ec
          exact ⟨ρ3, S2, μ2, _, _, g2, r3, eb, fun v5 μ5 H5 g5 ev5 r5 => k v5 μ5 H5 g5 (ev1.trans (ev2.trans ev5)) r5⟩
  · rename_i x S1 hne e1
    split at q
    · cases q
    · rename_i xs hx
      exact .inl ((for_read (ρ := ρ) (μ := μ) (De := D)) g r e1 hx q k)
  · cases q
end
end Iv

set_option Elab.async false
set_option linter.all false
set_option maxRecDepth 100000
set_option maxHeartbeats 1000000
namespace Iv
open PySem PySem.Spec PyProof.Rows L2

/-- the code of a def, at its entry -/
abbrev BodyX (P : Program) (w : World) (K : PySem.W.Frag) (mg : Str → Option Value) (base : Heap) (N : List Str) (qual : Str) (scope : Scope) (f : Addr) (cdv : Value) (A : Around) (outer : List PySem.Env) (s : Shared) (H : Hp) : Cx := (cxOf L2.CX0 P w K mg base N qual scope f cdv A outer s H L2.E0).nox
section
variable {P : Program} {w : World} {K : PySem.W.Frag} {mg : Str → Option Value} {base : Heap}
/-- a def keeps what the evaluation of its body says -/
theorem fnI_of {T : List Fn} {wh k fi : Nat} {fn : Fn} {f : Addr} {fd : FuncData} {x qual : Str} {params : Arguments} {body : List Stmt} {scope : Scope} {N ps : List Str} (FD : FunD K x qual params body scope [] [] f fd) (sc : FnScope N ps scope) (hT : T[fi]? = some fn) (har : fn.ar = ps.length) (hsl : fn.sl = N.length)
    (hbody : ∀ cdv A outer s H, Room k (A.deeper (envOfC qual scope s.heap.objs.size f cdv)) → Cok (BodyX P w K mg base N qual scope f cdv A outer s H) → PSs (BodyX P w K mg base N qual scope f cdv A outer s H) body (tSs K (run T wh k) wh fn.body)) :
    FnI P w K mg base (k + 1) f fd ps (spI K (run T wh (k + 1)) fn.ar fi) := by
  obtain ⟨oc, od, dV, kV, doc, pm, an, cdv, ct, osl, rfl, lk, hcd, _, _⟩ := FD.ex
  have hlen : ∀ vs H Q, spI K (run T wh (k + 1)) fn.ar fi vs H Q → vs.length = ps.length := fun vs H Q ⟨S, μ, ds, d, S', g, rv, hl, _⟩ => by rw [← rv.length, hl, har]
  refine ⟨hlen, fun A outer s H args us vs Q hr hgd e0 hb r hsp => ?_⟩
  have hl := hlen _ _ _ hsp
  have inBase : ∀ b o, base.get? b = some o → s.heap.get? b = some o := fun b o q => (e0.bs b o q).1
  have KX : K.In s.heap := e0.mod.kin.keeps inBase
  have lim : s.heap.NoLimit := e0.mod.nolimit.keeps inBase
  have hkind : ∀ y ∈ ps.zip us, scope.names.lookup y.1 = some .local ∨ (scope.names.lookup y.1 = some .cell ∧ ((cellsFrom (s.heap.objs.size + 1) scope.names []).lookup y.1).isSome = true) := by
    rintro ⟨n, v⟩ hy
    have hn := (List.of_mem_zip hy).1
    rcases sc.par n hn with z | z
    · exact .inl z
    · exact .inr ⟨z, PySem.W.cellsFrom_some _ _ _ (.inl z)⟩
  refine codeAny_call_function hr.depth (KX _ _ lk) rfl sc.co sc.gen rfl (PySem.W.codeRec_of KX hcd) (hb _ _ _ _ ?_)
  refine wpAny_newFunctionEnv_cells sc.kind hkind fun env he s1 entry => ?_
  cases he
  refine ⟨lim.keeps entry.toInCall.keep, codeAny_func ?_⟩
  have hroom : Room k (A.deeper (envOfC qual scope s.heap.objs.size f cdv)) := hr.deeper _
  have ok : Cok (BodyX P w K mg base N qual scope f cdv A outer s H) := ⟨sc.nd, rfl, hgd, by have := hr.un; show A.units + 3 + 200 < cLine; omega⟩
  have I : Inv (cxOf L2.CX0 P w K mg base N qual scope f cdv A outer s H L2.E0) [] (L2.start N vs) H s1 := inv_start sc hr.hd e0 hl r entry
  obtain ⟨S, μ, ds, d, S', g, rv, hd, q, kk⟩ := hsp
  -- the slots at the entry
  have rel : RelS K S μ H (ds.map some ++ List.replicate (fn.sl - fn.ar) none) (L2.start N vs) := by
    refine ⟨by unfold L2.start; rw [List.length_append, List.length_append, List.length_map, List.length_map, List.length_replicate, List.length_replicate, hsl, har, hl, ← hl, ← rv.length], fun i c hc => ?_⟩
    by_cases hi : i < ds.length
    · rw [List.getElem?_append_left (by rw [List.length_map]; exact hi), List.getElem?_map] at hc
      cases e : ds[i]? with
      | none => rw [e] at hc; cases hc
      | some c' =>
        rw [e] at hc
        cases hc
        obtain ⟨v, h1, h2⟩ := rv.get e
        refine ⟨v, ?_, h2⟩
        unfold L2.start
        rw [List.getElem?_append_left (by rw [List.length_map, ← rv.length]; exact hi), List.getElem?_map, h1]
        rfl
    · rw [List.getElem?_append_right (by rw [List.length_map]; omega), List.getElem?_replicate] at hc
      split at hc
      · cases hc
      · cases hc
  have q1 : ∃ o S1, exs (run T wh k) wh fn.body (ds.map some ++ List.replicate (fn.sl - fn.ar) none) S = some (o, S1) ∧ ((∃ ρ, o = .nx ρ ∧ d = .non ∧ S' = leave S.length .non S1) ∨ (o = .rt d ∧ S' = leave S.length d S1)) := by
    unfold run at q
    simp only [hT] at q
    rw [if_pos hd] at q
    split at q
    · rename_i d1 S1 e1
      cases q
      exact ⟨_, _, e1, .inr ⟨rfl, rfl⟩⟩
    · rename_i ρ1 S1 e1
      cases q
      exact ⟨_, _, e1, .inl ⟨_, rfl, rfl, rfl⟩⟩
    · cases q
  obtain ⟨o, S1, e1, ends⟩ := q1
  -- what is forgotten at the end
  have fin : ∀ (c : D) (v : V) (μ1 : Mu) (H1 : Hp), d = c → S' = leave S.length c S1 → Good K S1 μ1 H1 → Evo S μ H S1 μ1 H1 → Rep K S1 μ1 H1 c v → Q v H1 := by
    intro c v μ1 H1 hc hS g1 ev1 rv1
    subst hc
    unfold leave at hS
    split at hS
    · rename_i hp
      subst hS
      rw [Bool.and_eq_true] at hp
      exact kk v (μ1.take S.length) H1 (good_take g1 _ hp.2) (evo_take g.len.symm ev1) ((Bool.or_eq_true_iff.mp hp.1).elim (fun z => Rep.forget (fun a l => live_take l) z rv1) fun z => Rep.forget0 (fun a l => live_take l) z rv1)
    · subst hS
      exact kk v μ1 H1 g1 ev1 rv1
  have hbod := hbody cdv A outer s H hroom ok
  refine wpAny_mono (hbod.run [] s1 (L2.start N vs) H { nx := fun _ H' => Q .non H', rt := Q } (I.wish _) ⟨_, S, μ, o, S1, g, rel, e1, ?_⟩) (fun fl s' hs => ?_) fun e s' hs => False.elim hs
  · rcases ends with ⟨ρ1, rfl, rfl, hS⟩ | ⟨rfl, hS⟩
    · exact fun σ' μ' H' g' e' _ => fin .non .non μ' H' rfl hS g' e' rfl
    · exact fun v μ' H' g' e' rv' => fin d v μ' H' rfl hS g' e' rv'
  · have fin2 : ∀ {σ' : L2.St} {H' : Hp} {v : V} {u : Value}, Inv (cxOf L2.CX0 P w K mg base N qual scope f cdv A outer s H L2.E0) [] σ' H' s' → RelV v u → Q v H' → CE outer P w H s Q u s' :=
      fun J rv q => ⟨_, _, J.os, J.bare, J.base, J.hok, rv, q⟩
    have hs' := hs.unwish
    cases fl with
    | ret u =>
      obtain ⟨v, σ', H', J, rv', q'⟩ := hs'
      exact fin2 J rv' q'
    | next =>
      obtain ⟨σ', H', J, q'⟩ := hs'
      exact fin2 (v := V.non) (u := Value.none) J rfl q'
    | brk =>
      obtain ⟨_, _, _, q'⟩ := hs'
      exact False.elim q'
    | cont =>
      obtain ⟨_, _, _, q'⟩ := hs'
      exact False.elim q'
theorem run_ar {T : List Fn} {wh n fi : Nat} {fn : Fn} (hT : T[fi]? = some fn) : ∀ ds S r, run T wh n fi ds S = some r → ds.length = fn.ar := by
  intro ds S r h
  cases n with
  | zero => cases h
  | succ n =>
    unfold run at h
    simp only [hT] at h
    split at h
    · rename_i e
      exact e
    · cases h
end
structure DefI where
  name : Str
  cls : Option Str := none
  qual : Str
  ps : List Str
  N : List Str
  fn : Fn
  params : Arguments
  body : List Stmt
  scope : Scope
/-- where a def stands: a global, or a class's method -/
def DefI.key (d : DefI) : Str × Option Str := match d.cls with
  | none => (d.name, none)
  | some x => (x, some d.name)
/-- what the top has left -/
structure TopOk (K : PySem.W.Frag) (mg : Str → Option Value) (Ds : List DefI) : Prop where
  dfn : ∀ (i : Nat) (d : DefI), Ds[i]? = some d → ∃ fd, FunD K d.name d.qual d.params d.body d.scope [] [] (He.fAd K d.key) fd ∧ Binds K fd d.ps []
  glo : ∀ (i : Nat) (d : DefI), Ds[i]? = some d → d.cls = none → mg d.name = some (.ref (He.fAd K d.key))
  mth : ∀ (i : Nat) (d : DefI) (x : Str), Ds[i]? = some d → d.cls = some x → d.name ≠ "__init__" → Cls K (He.ga K x) ∧ Meth K (He.ga K x) d.name (He.fAd K d.key)
  mak : ∀ (i : Nat) (d : DefI) (x : Str), Ds[i]? = some d → d.cls = some x → d.name = "__init__" → mg x = some (.ref (He.ga K x)) ∧ Mk K (He.ga K x) (He.fAd K d.key)
  sc : ∀ (i : Nat) (d : DefI), Ds[i]? = some d → FnScope d.N d.ps d.scope ∧ d.fn.ar = d.ps.length ∧ d.fn.sl = d.N.length
abbrev Fns (Ds : List DefI) : List Fn := Ds.map (·.fn)
/-- keywords bind so -/
def KwOk (d : DefI) (n : Nat) (ks : List Str) (pm : List Nat) : Prop := ∀ (kV doc pmv : Value) (an : Option Addr) (cdv ct : Value) (us ws : List Value), us.length = n → ws.length = ks.length →
  bindArgs (PySem.W.fnOf d.name d.qual d.params d.body d.scope .none kV doc pmv an cdv ct) ⟨us, ks.zip ws⟩ = pure (d.ps.zip (prm pm (us ++ ws)))
/-- what a body may lean on -/
structure BodyOk (X : Cx) (Ds : List DefI) (wh k : Nat) : Prop where
  ok : Cok X
  call : ∀ (i : Nat) (d : DefI), Ds[i]? = some d → d.cls = none → CallOk X (run (Fns Ds) wh k) i d.fn.ar d.name
  callK : ∀ (i : Nat) (d : DefI) (n : Nat) (ks : List Str) (pm : List Nat), Ds[i]? = some d → d.cls = none → KwOk d n ks pm → CallKOk X (run (Fns Ds) wh k) i d.fn.ar d.name n ks pm
  meth : ∀ (i : Nat) (d : DefI) (x : Str), Ds[i]? = some d → d.cls = some x → d.name ≠ "__init__" → MethOk X (run (Fns Ds) wh k) i d.fn.ar x d.name
  make : ∀ (i : Nat) (d : DefI) (x : Str), Ds[i]? = some d → d.cls = some x → d.name = "__init__" → MakeOk X (run (Fns Ds) wh k) (Ds.length + i) d.fn.ar x
  ne : ∀ (i : Nat) (d : DefI) (x : Str), Ds[i]? = some d → d.cls = some x → d.name = "__eq__" → NeOk X (run (Fns Ds) wh k) (Ds.length + i) d.fn.ar x
section
variable {P : Program} {w : World} {K : PySem.W.Frag} {mg : Str → Option Value} {base : Heap}
theorem fns_get {Ds : List DefI} {i : Nat} {d : DefI} (h : Ds[i]? = some d) : (Fns Ds)[i]? = some d.fn := by rw [List.getElem?_map, h]; rfl
theorem FnI.weak {k : Nat} {f : Addr} {fd : FuncData} {ps : List Str} {sp sp' : SpI} (F : FnI P w K mg base k f fd ps sp) (h : ∀ vs H Q, sp' vs H Q → sp vs H Q) : FnI P w K mg base k f fd ps sp' :=
  ⟨fun vs H Q q => F.len vs H Q (h _ _ _ q), fun A outer s H args us vs Q hr hg e hb r q => F.run A outer s H args us vs Q hr hg e hb r (h _ _ _ q)⟩
theorem run_make_at {Ds : List DefI} {wh k i : Nat} {ds : List D} {S : Sto} : run (Fns Ds) wh (k + 1) (Ds.length + i) ds S = run (Fns Ds) wh k i ds S := by
  have e : (Fns Ds)[Ds.length + i]? = none := List.getElem?_eq_none (by rw [List.length_map]; omega)
  have e2 : Ds.length + i - (Fns Ds).length = i := by rw [List.length_map]; omega
  show (match (Fns Ds)[Ds.length + i]? with
    | none => run (Fns Ds) wh k (Ds.length + i - (Fns Ds).length) ds S
    | some fn => _) = _
  rw [e, e2]
theorem all_fnI {Ds : List DefI} {wh : Nat} (T : TopOk K mg Ds)
    (bodies : ∀ (i : Nat) (d : DefI), Ds[i]? = some d → ∀ k f cdv A outer s H, BodyOk (BodyX P w K mg base d.N d.qual d.scope f cdv A outer s H) Ds wh k → PSs (BodyX P w K mg base d.N d.qual d.scope f cdv A outer s H) d.body (tSs K (run (Fns Ds) wh k) wh d.fn.body)) :
    ∀ (n k : Nat), k ≤ n → ∀ (i : Nat) (d : DefI) fd, Ds[i]? = some d → FunD K d.name d.qual d.params d.body d.scope [] [] (He.fAd K d.key) fd → FnI P w K mg base k (He.fAd K d.key) fd d.ps (spI K (run (Fns Ds) wh k) d.fn.ar i) := by
  have zero : ∀ (i : Nat) (d : DefI) fd, FnI P w K mg base 0 (He.fAd K d.key) fd d.ps (spI K (run (Fns Ds) wh 0) d.fn.ar i) := fun i d fd =>
    ⟨(fun vs H Q h => by obtain ⟨_, _, _, _, _, _, _, _, q, _⟩ := h; cases q), (fun _ _ _ _ _ _ _ _ _ _ _ _ _ h => by obtain ⟨_, _, _, _, _, _, _, _, q, _⟩ := h; cases q)⟩
  intro n
  induction n with
  | zero =>
    intro k hk i d fd hi D
    cases Nat.le_zero.mp hk
    exact zero i d fd
  | succ n ih =>
    intro k hk i d fd hi D
    rcases Nat.lt_or_ge n k with hlt | hge
    case inr => exact ih k hge i d fd hi D
    obtain rfl : k = n + 1 := by omega
    obtain ⟨s1, s2, s3⟩ := T.sc i d hi
    refine fnI_of D s1 (fns_get hi) s2 s3 fun cdv A outer s H hr ok => bodies i d hi n _ cdv A outer s H ⟨ok, fun j e hj hc => ?_, fun j e m ks pm hj hc hkw => ?_, fun j e x hj hc hx => ?_, fun j e x hj hc hx => ?_, fun j e x hj hc hx => ?_⟩
    · obtain ⟨fd2, D2, hb2⟩ := T.dfn j e hj
      exact ⟨run_ar (fns_get hj), _, fd2, e.ps, n, T.glo j e hj hc, D2.kp, hb2, hr, ih n (Nat.le_refl _) j e fd2 hj D2⟩
    · obtain ⟨fd2, D2, hb2⟩ := T.dfn j e hj
      have G := ih n (Nat.le_refl _) j e fd2 hj D2
      have kp := D2.kp
      refine ⟨run_ar (fns_get hj), _, fd2, e.ps, n, T.glo j e hj hc, kp, fun s us ws h1 h2 => ?_, hr, G⟩
      obtain ⟨oc, od, dV, kV, doc, pmv, an, cdv2, ct, osl, rfl, lk, hcd, hD, hK⟩ := D2.ex
      rcases hD with ⟨_, rfl⟩ | ⟨z, _⟩
      · exact .of_eq (hkw kV doc pmv an cdv2 ct us ws h1 h2)
      · exact absurd rfl z
    · obtain ⟨fd2, D2, hb2⟩ := T.dfn j e hj
      obtain ⟨c, m⟩ := T.mth j e x hj hc hx
      exact ⟨run_ar (fns_get hj), c, _, fd2, e.ps, n, m, hb2, hr, ih n (Nat.le_refl _) j e fd2 hj D2⟩
    · obtain ⟨fd2, D2, hb2⟩ := T.dfn j e hj
      obtain ⟨c, m⟩ := T.mak j e x hj hc hx
      cases n with
      | zero => exact ⟨fun ds S r h => (nomatch h), c, fun ds S r h => (nomatch h)⟩
      | succ n =>
        refine ⟨fun ds S r h => run_ar (fns_get hj) ds S r (by rw [← run_make_at]; exact h), c, fun ds S r h => ⟨_, fd2, e.ps, n, m, hb2, hr, (ih n (Nat.le_succ _) j e fd2 hj D2).weak fun vs H Q q => ?_⟩⟩
        obtain ⟨S1, μ1, ds1, d1, S2, q1, q2, q3, q4, q5⟩ := q
        exact ⟨S1, μ1, ds1, d1, S2, q1, q2, q3, by rw [← run_make_at]; exact q4, q5⟩
    · obtain ⟨fd2, D2, hb2⟩ := T.dfn j e hj
      obtain ⟨c, m⟩ := T.mth j e x hj hc (by rw [hx]; decide)
      cases n with
      | zero => exact ⟨fun ds S r h => (nomatch h), fun ds S r h => (nomatch h)⟩
      | succ n =>
        refine ⟨fun ds S r h => run_ar (fns_get hj) ds S r (by rw [← run_make_at]; exact h), fun ds S r h => ⟨_, fd2, e.ps, n, by rw [hx] at m; exact m, hb2, hr, (ih n (Nat.le_succ _) j e fd2 hj D2).weak fun vs H Q q => ?_⟩⟩
        obtain ⟨S1, μ1, ds1, d1, S2, q1, q2, q3, q4, q5⟩ := q
        exact ⟨S1, μ1, ds1, d1, S2, q1, q2, q3, by rw [← run_make_at]; exact q4, q5⟩
end

theorem law_I {P : Program} {w : World} {K : PySem.W.Frag} {mg mb : Str → Option Value} {k fi : Nat} {F : CF} {fa a : Addr} {fd : FuncData} {x : Str} {s1 : Shared} {vs : List Value} {ns : List Int}
    (KX : K.In s1.heap) (hns : s1.heap.Ns mainGlobals mg) (hb : s1.heap.Ns builtinsNs mb) (hbb : ∀ x : Str, x ≠ "__name__" → mb x = bootBuiltins x) (hlim : s1.heap.NoLimit) (hg : s1.gens = #[])
    (ha : s1.heap.get? a = some { cls := .type "list", data := .seq vs.toArray }) (hi : IntsAre vs ns) (hl : ns.length ≤ sizeLine) (hr : Room k callerA)
    (G : ∀ base : Heap, K.In base → base.Ns mainGlobals mg → FnI P w K mg base k fa fd [x] (spI K F 1 fi)) (hbind : ∀ (s : Shared) (u : Value), BindsTo s fd ⟨[u], []⟩ [(x, u)])
    (hrun : ∃ S', F fi [.lst (ns.map D.int)] [] = some (.bl true, S')) :
    codeAny (model P w) callerA (.call (.ref fa) ⟨[.ref a], []⟩) (fun r s' => r = .ok (.ret (.bool true)) ∧ OldK s1.heap s'.heap ∧ s'.os = s1.os ∧ AllBare s'.gens) s1 := by
  have rv := vals_ints hi
  have lenV := hi.length
  have good0 : ∀ H : Hp, Good K [] ⟨[], []⟩ H := fun H => ⟨rfl, fun i xs q => by simp at q, fun i j xs ys a q => by simp at q, fun a ha => by simp at ha, fun a ha => by simp at ha⟩
  have repsI : ∀ (H : Hp) (ns : List Int), Reps K [] ⟨[], []⟩ H (ns.map D.int) (ns.map V.int) := fun H ns => by
    induction ns with
    | nil => rfl
    | cons n ns ih => exact ⟨_, _, rfl, rfl, ih⟩
  have noLive : ∀ b, ¬ Live [] ⟨[], []⟩ b := fun b l => by
    rcases l with ⟨i, xs, q, _⟩ | l
    · simp at q
    · simp at l
  obtain ⟨S', hrun⟩ := hrun
  have core : ∀ H : Hp, L2.Only H → ((Rd H a (.lst (ns.map V.int)) ∧ ¬ Live [] ⟨[], []⟩ a) ∨ KL K a (ns.map V.int)) → HOk P w H s1.heap → (∀ b, H b ≠ none → b = a) → (H a ≠ none → K.lookup a = none) →
      codeAny (model P w) callerA (.call (.ref fa) ⟨[.ref a], []⟩) (fun r s' => r = .ok (.ret (.bool true)) ∧ OldK s1.heap s'.heap ∧ s'.os = s1.os ∧ AllBare s'.gens) s1 := by
    intro H hO hS hok hA hK
    have dictFree : ∀ {b : Addr} {o : Obj} {es : Array DictEntry} {ep : Nat}, s1.heap.get? b = some o → o.data = .dict es ep → H b = none := by
      intro b o es ep q dd
      cases hb' : H b with
      | none => rfl
      | some u =>
        have eb := hA b (by rw [hb']; simp)
        subst eb
        rw [ha] at q
        cases q
        cases (show Data.seq vs.toArray _ = Data.dict es ep from dd)
    have keepNs : ∀ {b : Addr} {m : Str → Option Value}, s1.heap.Ns b m → (hidT s1.heap H).Ns b m := fun {b m} ⟨o, es, ep, q, dd, r⟩ => ⟨o, es, ep, hidT_get q (dictFree q dd), dd, r⟩
    have keepK : K.In (hidT s1.heap H) := by
      intro b o q
      refine hidT_get (KX b o q) ?_
      cases hb' : H b with
      | none => rfl
      | some u =>
        have eb := hA b (by rw [hb']; simp)
        subst eb
        rw [hK (by rw [hb']; simp)] at q
        cases q
    have hM : Mod K mg (hidT s1.heap H) := ⟨keepK, keepNs hns, ⟨mb, keepNs hb, hbb⟩, let ⟨mc, h1, h2⟩ := hlim; ⟨mc, keepNs h1, h2⟩⟩
    have e0 : Env0 P w K mg (hidT s1.heap H) callerA [] s1 H := ⟨rfl, hM, fun b o q => of_hidT q, Nat.le_of_eq (hidT_size _ _), trivial, fun b hb => by simp [frs] at hb, hok, .of_eq hg⟩
    have hq : spI K F 1 fi [.ref a] H (fun v _ => v = .bl true) := ⟨[], ⟨[], []⟩, [.lst (ns.map D.int)], .bl true, S', good0 H, ⟨.ref a, [], rfl, ⟨a, _, rfl, hS, repsI H ns⟩, rfl⟩, rfl, hrun, fun v μ' H' _ _ rv => rv⟩
    refine codeAny_mono ((G _ keepK (keepNs hns)).run callerA [] s1 H ⟨[.ref a], []⟩ [.ref a] [.ref a] _ hr rfl e0 (hbind s1 (.ref a)) (.cons rfl .nil) hq) fun r s' h => ?_
    cases r with
    | error e => exact False.elim h
    | ok fl =>
      cases fl with
      | next => exact False.elim h
      | brk => exact False.elim h
      | cont => exact False.elim h
      | ret u =>
        obtain ⟨v, H', os, bare, un, hok', r', q⟩ := h
        cases (show v = .bl true from q)
        cases (show u = Value.bool true from r')
        refine ⟨rfl, OldK.of_keep fun b o e => ?_, os, bare⟩
        cases q : H b with
        | none => exact un.keep b o e q (by simp [frs]) (by simp)
        | some u =>
          rcases hO b with z | ⟨ob, xs, z⟩
          · rw [q] at z; cases z
          · obtain ⟨e1, _⟩ := hok b _ z
            obtain ⟨e2, _⟩ := hok' b _ (un.frzs b ob _ z)
            rw [e] at e1; cases e1
            exact e2
  cases hk : K.lookup a with
  | some o =>
    have e := KX a o hk
    rw [ha] at e
    cases e
    exact core (fun _ => none) (fun _ => .inl rfl) (.inr ⟨vs, 0, hk, by rw [lenV]; exact hl, rv⟩) (fun b u z => by cases (show (none : Option HO) = some u from z)) (fun b z => absurd rfl z) fun z => absurd rfl z
  | none =>
    refine core (fun b => if b = a then some (.frz { cls := .type "list", data := .seq vs.toArray } (.lst (ns.map V.int))) else none) (fun b => ?_) (.inl ⟨.inr ⟨{ cls := .type "list", data := .seq vs.toArray }, if_pos rfl⟩, noLive a⟩) (fun b u z => ?_) (fun b z => ?_) fun _ => hk
    · by_cases hb : b = a
      · exact .inr ⟨_, _, if_pos hb⟩
      · exact .inl (if_neg hb)
    · by_cases hb : b = a
      · cases (if_pos hb).symm.trans z
        subst hb
        exact ⟨ha, by rw [List.length_map]; exact hl, vs, _, rv, ha⟩
      · cases (if_neg hb).symm.trans z
    · by_cases hb : b = a
      · exact hb
      · exact absurd (if_neg hb) z
theorem walk_I {l : PySem.W.OpenLaw} {n k fi : Nat} {q : Program} {loose : List Str} {XP : (Str → Option Value) → Heap → Prop} {YP : World → Heap → Prop} {d : DefRec} {F : CF} {x : Str} (hn : l.most = some n) (hn2 : n ≤ sizeLine) (hdf : d.params.defaults = []) (hr : Room k callerA)
    (G : ∀ (w : World) (mg : Str → Option Value) (fa : Addr) (h : Heap), YP w h → h.Ns mainGlobals mg → mg d.name = some (.ref fa) → ∃ (K : PySem.W.Frag) (fd : FuncData), K.In h ∧ (∀ (s : Shared) (u : Value), BindsTo s fd ⟨[u], []⟩ [(x, u)]) ∧
      ∀ base : Heap, K.In base → base.Ns mainGlobals mg → FnI l.prog w K mg base k fa fd [x] (spI K F 1 fi))
    (hrun : ∀ ns : List Int, ns.length ≤ n → ∃ S', F fi [.lst (ns.map D.int)] [] = some (.bl true, S')) : PySem.W.WalkO q loose XP YP l.row.toRowW d [] (fun f vs => PySem.call f vs) := by
  refine Att.attach_call hn hdf fun w s0 s1 mg mb fa o pm cd doc a vs ns Gr Y ho hd hcd hmg hobj hints hlen hg => ?_
  obtain ⟨K, fd, KX, hb, hF⟩ := G w mg fa _ Y Gr.T.g hmg
  exact law_I KX Gr.T.g Gr.T.b Gr.T.builtins Gr.T.nolimit hg hobj hints (Nat.le_trans hlen hn2) hr hF hb (hrun ns hlen)
end Iv

set_option Elab.async false
set_option linter.all false
set_option maxRecDepth 100000
set_option maxHeartbeats 4000000
namespace Iv
open PySem PySem.Spec PyProof.Rows L2
def isSq (nm : String) (nd : Bool) (K : PySem.W.Frag) (a : Addr) : Option (List Value) := match K.lookup a with
  | some ⟨.type c, od, .seq its _, _⟩ => if c = nm ∧ its.size ≤ sizeLine ∧ (nd = true → od = none) then some its.toList else none
  | _ => none
theorem isSq_ok {nm : String} {nd : Bool} {K : PySem.W.Frag} {a : Addr} {us : List Value} (h : isSq nm nd K a = some us) :
    ∃ (o : Obj) (its : Array Value) (n : Nat), K.lookup a = some o ∧ o.cls = .type nm ∧ (nd = true → o.dict = none) ∧ o.data = .seq its n ∧ its.size ≤ sizeLine ∧ its.toList = us := by
  unfold isSq at h
  split at h
  · rename_i c od its m sl q
    split at h
    · rename_i hc
      obtain ⟨h1, h2, h3⟩ := hc
      cases h
      exact ⟨_, its, m, q, congrArg Value.type h1, h3, rfl, h2, rfl⟩
    · cases h
  · cases h
def isLs (K : PySem.W.Frag) (a : Addr) : Option (List Value) := match K.lookup a with
  | some ⟨.type c, none, .seq its _, sl⟩ => if c = "list" ∧ its.size ≤ sizeLine ∧ sl = #[] then some its.toList else none
  | _ => none
theorem isLs_ok {K : PySem.W.Frag} {a : Addr} {us : List Value} (h : isLs K a = some us) : ∃ n, K.lookup a = some { cls := .type "list", data := .seq us.toArray n } ∧ us.length ≤ sizeLine := by
  unfold isLs at h
  split at h
  · rename_i c its m sl q
    split at h
    · rename_i hc
      obtain ⟨h1, h2, h3⟩ := hc
      cases h
      subst h1
      subst h3
      exact ⟨m, by rw [q], by simpa using h2⟩
    · cases h
  · cases h
mutual
def gB (K : PySem.W.Frag) : D → Value → Bool
  | .non, .none => true
  | .bl b, .bool c => decide (b = c)
  | .int i, .int j _ => decide (i = j)
  | .str x, .str y _ => decide (x = y)
  | .tup ds, .ref a => (match isSq "tuple" false K a with
    | some us => gBs K ds us
    | none => false)
  | .lst ds, .ref a => (match isLs K a with
    | some us => gBs K ds us
    | none => false)
  | _, _ => false
def gBs (K : PySem.W.Frag) : List D → List Value → Bool
  | [], [] => true
  | d :: ds, u :: us => gB K d u && gBs K ds us
  | _, _ => false
end
mutual
theorem gB_ok {K : PySem.W.Frag} : ∀ (d : D) (u : Value), gB K d u = true → ∃ v, RelV v u ∧ ∀ S μ H, Rep K S μ H d v
  | .non, .none, _ => ⟨.non, rfl, fun _ _ _ => rfl⟩
  | .bl b, .bool c, h => ⟨.bl b, congrArg Value.bool (of_decide_eq_true h).symm, fun _ _ _ => rfl⟩
  | .int i, .int j t, h => ⟨.int i, ⟨t, by rw [of_decide_eq_true (show decide (i = j) = true from h)]⟩, fun _ _ _ => rfl⟩
  | .str x, .str y t, h => ⟨.str x, ⟨t, by rw [of_decide_eq_true (show decide (x = y) = true from h)]⟩, fun _ _ _ => rfl⟩
  | .tup ds, .ref a, h => by
    simp only [gB] at h
    split at h
    · rename_i us q
      obtain ⟨o, its, n, k1, k2, k3, k4, k5, k6⟩ := isSq_ok q
      obtain ⟨vs, r, s⟩ := gBs_ok ds us h
      exact ⟨.ref a, rfl, fun S μ H => ⟨a, vs, rfl, .inr ⟨o, its, n, k1, k2, k4, k5, by rw [k6]; exact r⟩, s S μ H⟩⟩
    · cases h
  | .lst ds, .ref a, h => by
    simp only [gB] at h
    split at h
    · rename_i us q
      obtain ⟨n, k1, k2⟩ := isLs_ok q
      obtain ⟨vs, r, s⟩ := gBs_ok ds us h
      exact ⟨.ref a, rfl, fun S μ H => ⟨a, vs, rfl, .inr ⟨us, n, k1, k2, r⟩, s S μ H⟩⟩
    · cases h
  | .ref _, u, h => by simp [gB] at h
theorem gBs_ok {K : PySem.W.Frag} : ∀ (ds : List D) (us : List Value), gBs K ds us = true → ∃ vs, Vals vs us ∧ ∀ S μ H, Reps K S μ H ds vs
  | [], [], _ => ⟨[], .nil, fun _ _ _ => rfl⟩
  | d :: ds, u :: us, h => by
    obtain ⟨h1, h2⟩ := Bool.and_eq_true_iff.mp (show (gB K d u && gBs K ds us) = true from h)
    obtain ⟨v, r, k⟩ := gB_ok d u h1
    obtain ⟨vs, rs, ks⟩ := gBs_ok ds us h2
    exact ⟨v :: vs, .cons r rs, fun S μ H => ⟨v, vs, rfl, k S μ H, ks S μ H⟩⟩
  | [], _ :: _, h => by simp [gBs] at h
  | _ :: _, [], h => by simp [gBs] at h
end
def gbx (K : PySem.W.Frag) (x : Str) (d : D) : Bool := match PySem.W.nsIn K mainGlobals x with
  | some (some u) => gB K d u
  | _ => false
theorem glob_of {K : PySem.W.Frag} {h : Heap} {mg : Str → Option Value} (X : K.In h) (G : h.Ns mainGlobals mg) {x : Str} {d : D} (q : gbx K x d = true) : GlobOk K mg x d := by
  unfold gbx at q
  split at q
  · rename_i u e
    obtain ⟨v, r, s⟩ := gB_ok d u q
    exact ⟨u, v, PySem.W.mg_of X G e, r, s⟩
  · cases q
def DefI.he (d : DefI) : He.DefD := ⟨d.key, d.name, d.qual, d.params, d.body, d.scope, [], []⟩
/-- a def binds its arguments by place -/
def BindN (d : DefI) : Prop := ∀ (kV doc pm : Value) (an : Option Addr) (cdv ct : Value) (us : List Value), us.length = d.ps.length → bindArgs (PySem.W.fnOf d.name d.qual d.params d.body d.scope .none kV doc pm an cdv ct) ⟨us, []⟩ = pure (d.ps.zip us)
/-- what the head must have looked at for this def -/
def DefI.fa (d : DefI) : List He.Fa := match d.cls with
  | none => [.glo d.name]
  | some x => if d.name = "__init__" then [.glo x, .mkr x] else [.cls x, .meth x d.name]
def faEq : He.Fa → He.Fa → Bool
  | .glo x, .glo y => decide (x = y)
  | .cls x, .cls y => decide (x = y)
  | .mkr x, .mkr y => decide (x = y)
  | .meth x m, .meth y k => decide (x = y) && decide (m = k)
  | _, _ => false
theorem faEq_ok : ∀ a b : He.Fa, faEq a b = true → a = b := fun a b h => by
  cases a <;> cases b <;> first | (simp [faEq] at h; done) | (simp only [faEq, Bool.and_eq_true, decide_eq_true_eq] at h; first | (rw [h]) | (rw [h.1, h.2]))
theorem fa_all {Ds : List DefI} {fa : List He.Fa} (h : (Ds.all fun d => d.fa.all fun f => fa.any fun g => faEq f g) = true) : ∀ d ∈ Ds, ∀ f ∈ d.fa, f ∈ fa := fun d hd f hf => by
  obtain ⟨g, hg, e⟩ := List.any_eq_true.mp (List.all_eq_true.mp (List.all_eq_true.mp h d hd) f hf)
  rw [faEq_ok f g e]
  exact hg
theorem topOk_of {K : PySem.W.Frag} {h : Heap} {w : World} {mg : Str → Option Value} {Ds : List DefI} {fa : List He.Fa} {ex : PySem.W.Frag → Bool} (X : K.In h) (G : h.Ns mainGlobals mg) (c : He.SaysX fa (Ds.map DefI.he) [] [] ex w h K)
    (hfa : ∀ d ∈ Ds, ∀ f ∈ d.fa, f ∈ fa) (hb : ∀ (i : Nat) (d : DefI), Ds[i]? = some d → BindN d) (hs : ∀ (i : Nat) (d : DefI), Ds[i]? = some d → FnScope d.N d.ps d.scope ∧ d.fn.ar = d.ps.length ∧ d.fn.sl = d.N.length) : TopOk K mg Ds := by
  have fact : ∀ (d : DefI) (f : He.Fa), d ∈ Ds → f ∈ d.fa → f.ok K = true := fun d f hm hf => He.SaysD.facts c.t.d (hfa d hm f hf)
  refine ⟨fun i d hi => ?_, fun i d hi hc => ?_, fun i d x hi hc hn => ?_, fun i d x hi hc hn => ?_, hs⟩
  · have hm : d ∈ Ds := List.mem_of_getElem? hi
    obtain ⟨fd, F⟩ := He.SaysD.defs c.t.d (d := d.he) (List.mem_map.mpr ⟨d, hm, rfl⟩)
    have F' : FunD K d.name d.qual d.params d.body d.scope [] [] (He.fAd K d.key) fd := F
    exact ⟨fd, F', F'.bindsN (hb i d hi)⟩
  · have q := He.glo_ok X G (fact d (.glo d.name) (List.mem_of_getElem? hi) (by unfold DefI.fa; rw [hc]; simp))
    rw [q]
    unfold DefI.key
    rw [hc]
    rfl
  · have h1 := He.cls_ok (fact d (.cls x) (List.mem_of_getElem? hi) (by unfold DefI.fa; rw [hc]; simp only [if_neg hn]; simp))
    have h2 := He.meth_ok (fact d (.meth x d.name) (List.mem_of_getElem? hi) (by unfold DefI.fa; rw [hc]; simp only [if_neg hn]; simp))
    refine ⟨h1, ?_⟩
    unfold DefI.key
    rw [hc]
    exact h2
  · have h1 := He.glo_ok X G (fact d (.glo x) (List.mem_of_getElem? hi) (by unfold DefI.fa; rw [hc]; simp only [if_pos hn]; simp))
    have h2 := He.mkr_ok (fact d (.mkr x) (List.mem_of_getElem? hi) (by unfold DefI.fa; rw [hc]; simp only [if_pos hn]; simp))
    refine ⟨h1, ?_⟩
    unfold DefI.key
    rw [hc, hn]
    exact h2
/-- the law's def, by its place -/
theorem law_fd {K : PySem.W.Frag} {mg : Str → Option Value} {Ds : List DefI} {i : Nat} {d : DefI} {x : Str} {f : Addr} (T : TopOk K mg Ds) (hi : Ds[i]? = some d) (hc : d.cls = none) (hp : d.ps = [x]) (hb : BindN d) (hm : mg d.name = some (.ref f)) :
    ∃ fd, f = He.fAd K d.key ∧ FunD K d.name d.qual d.params d.body d.scope [] [] (He.fAd K d.key) fd ∧ ∀ (s : Shared) (v : Value), BindsTo s fd ⟨[v], []⟩ [(x, v)] := by
  obtain ⟨fd, F, _⟩ := T.dfn i d hi
  have h1 := T.glo i d hi hc
  cases hm.symm.trans h1
  refine ⟨fd, rfl, F, fun s v => ?_⟩
  have b := F.bindsA (ps := [x]) (fun kV doc pm an cdv ct us hl => by
    have z := hb kV doc pm an cdv ct us (by rw [hp]; exact hl)
    rw [hp] at z
    exact z) s [v] rfl
  exact b
end Iv

set_option Elab.async false
set_option linter.all false
set_option maxRecDepth 100000
set_option maxHeartbeats 4000000
namespace Iv
open PySem
variable {T : List Fn} {w n : Nat}
theorem run_rt {f : Nat} {fn : Fn} {ds : List D} {S S1 : Sto} {d : D} (h : T[f]? = some fn) (hl : ds.length = fn.ar) (e : exs (run T w n) w fn.body (ds.map some ++ List.replicate (fn.sl - fn.ar) none) S = some (.rt d, S1)) : run T w (n + 1) f ds S = some (d, leave S.length d S1) := by
  simp only [run, h, hl, if_true, e]
theorem run_nx {f : Nat} {fn : Fn} {ds : List D} {S S1 : Sto} {ρ : Env} (h : T[f]? = some fn) (hl : ds.length = fn.ar) (e : exs (run T w n) w fn.body (ds.map some ++ List.replicate (fn.sl - fn.ar) none) S = some (.nx ρ, S1)) : run T w (n + 1) f ds S = some (.non, leave S.length .non S1) := by
  simp only [run, h, hl, if_true, e]
theorem op_add {i j : Int} : opD .Add (.int i) (.int j) = some (.int (i + j)) := rfl
theorem op_sub {i j : Int} : opD .Sub (.int i) (.int j) = some (.int (i - j)) := rfl
theorem pw_small2 {i : Int} (h : i.natAbs < 2 ^ 200) : i.natAbs < 2 ^ 8000 := Nat.lt_of_lt_of_le h (Nat.pow_le_pow_right (by decide) (by decide))
theorem op_mul {i j : Int} (h1 : i.natAbs < 2 ^ 63) : opD .Mult (.int i) (.int j) = some (.int (i * j)) := by
  show (if _ then _ else _) = _
  rw [if_pos (by rw [decide_eq_true h1]; rfl)]
theorem op_div {i j : Int} (h1 : 0 < j) (h2 : j.natAbs < 2 ^ 200) : opD .FloorDiv (.int i) (.int j) = some (.int (i / j)) := by
  show (if _ then _ else _) = _
  rw [if_pos (by rw [decide_eq_true h1, decide_eq_true (pw_small2 h2)]; rfl)]
theorem op_mod {i j : Int} (h1 : 0 < j) : opD .Mod (.int i) (.int j) = some (.int (i % j)) := by
  show (if _ then _ else _) = _
  rw [if_pos (decide_eq_true h1)]
theorem op_pow {i j : Int} (h1 : 0 ≤ j) (h2 : j ≤ 1000) (h3 : i.natAbs < 2 ^ 64) : opD .Pow (.int i) (.int j) = some (.int (i ^ j.toNat)) := by
  show (if _ then _ else _) = _
  rw [if_pos (by rw [decide_eq_true h1, decide_eq_true h2, decide_eq_true h3]; rfl)]
theorem pures_ints : ∀ c : List Int, D.pures (c.map D.int) = true
  | [] => rfl
  | _ :: c => by simp [D.pures, D.pure, pures_ints c]
theorem pys_ints : ∀ c : List Int, D.pys (c.map D.int) = c.map PyData.int
  | [] => rfl
  | _ :: c => by simp [D.pys, D.py, pys_ints c]
theorem lay_ints : ∀ c : List Int, PyData.canLayAll0 (c.map PyData.int) = true
  | [] => rfl
  | _ :: c => by simp [PyData.canLayAll0, PyData.canLay0, lay_ints c]
theorem depth_ints : ∀ c : List Int, PyData.depthAll (c.map PyData.int) = 0
  | [] => rfl
  | _ :: c => by simp [PyData.depthAll, PyData.depth, depth_ints c]
theorem ok_ints (c : List Int) : D.ok (.lst (c.map D.int)) = true := by
  simp [D.ok, D.pure, D.py, PyData.canLay0, PyData.depth, pures_ints, pys_ints, lay_ints, depth_ints]
theorem ok_nil : D.ok (.lst []) = true := rfl
theorem eqv_nil (xs : List D) : D.eqv (.lst xs) (.lst []) = xs.isEmpty := by
  cases xs <;> simp [D.eqv, D.py, D.pys, PyData.eqv, PyData.eqvAll]

/-- the shelf: the script's cells, how many were read, what is held -/
def shelf (c : List Int) (t h : Int) : List D := [.lst (c.map D.int), .int t, .int h]
/-- the last part: mixed -/
def mixB (c1 p1 m2 p2 k m1 p3 : Int) : Ss := (.cons (.asg (.n 4) (.op .Mod (.bi .int (.cons (.op .Pow (.op .Add (.op .Add (.op .Mod (.bi .int (.cons (.v 3) .nil)) (.c (.int p1))) (.op .Mult (.c (.int m2)) (.v 2))) (.c (.int c1))) (.c (.int 5))) .nil)) (.c (.int p2)))) (.cons (.asg (.n 4) (.op .Mod (.bi .int (.cons (.op .Pow (.op .Add (.op .Add (.op .Mult (.v 4) (.op .Add (.op .Mult (.c (.int 2)) (.v 2)) (.c (.int k)))) (.op .Mult (.op .Mult (.c (.int m1)) (.v 2)) (.v 2))) (.c (.int m2))) (.c (.int 3))) .nil)) (.c (.int p3)))) (.cons (.ret (.op .Mod (.bi .int (.cons (.op .FloorDiv (.v 4) (.c (.int 64))) .nil)) (.v 1))) .nil)))
def heldB : Ss := (.cons (.put (.v 0) (.c (.int 2)) (.op .FloorDiv (.bi .int (.cons (.v 5) .nil)) (.v 1))) (.cons (.ret (.op .Mod (.bi .int (.cons (.v 5) .nil)) (.v 1))) .nil))
def bigB : St := (.ifs (.and (.cmp .Lt (.v 2) (.bi .len (.cons (.ix (.v 0) (.c (.int 0))) .nil))) (.cmp .GtE (.bi .abs (.cons (.v 3) .nil)) (.op .Pow (.c (.int 10)) (.c (.int 18))))) (.cons (.asg (.n 5) (.op .Add (.op .Mult (.c (.int 2)) (.op .Sub (.bi .abs (.cons (.v 3) .nil)) (.op .Pow (.c (.int 10)) (.c (.int 18))))) (.bi .int (.cons (.cmp .Lt (.v 3) (.c (.int 0))) .nil)))) heldB) .nil)
def cellB : St := (.ifs (.cmp .NotEq (.ix (.v 0) (.c (.int 0))) (.lst .nil)) (.cons (.asg (.n 3) (.ix (.ix (.v 0) (.c (.int 0))) (.op .Mod (.bi .int (.cons (.v 2) .nil)) (.bi .len (.cons (.ix (.v 0) (.c (.int 0))) .nil))))) .nil) .nil)
theorem isObj_shelf (c : List Int) (t h : Int) : isObj (shelf c t h) = false := rfl
theorem sh0 (c : List Int) (t h : Int) : ixD (.lst (shelf c t h)) (.int 0) = some (.lst (c.map D.int)) := rfl
theorem sh1 (c : List Int) (t h : Int) : ixD (.lst (shelf c t h)) (.int 1) = some (.int t) := rfl
theorem sh2 (c : List Int) (t h : Int) : ixD (.lst (shelf c t h)) (.int 2) = some (.int h) := rfl
def reachB (m1 c1 p1 m2 p2 k p3 : Int) : Ss := (.cons (.ifs (.cmp .Gt (.ix (.v 0) (.c (.int 2))) (.c (.int 0))) (.cons (.asg (.n 5) (.ix (.v 0) (.c (.int 2)))) heldB) .nil) (.cons (.asg (.n 2) (.ix (.v 0) (.c (.int 1)))) (.cons (.put (.v 0) (.c (.int 1)) (.op .Add (.v 2) (.c (.int 1)))) (.cons (.asg (.n 3) (.op .Add (.op .Mult (.c (.int m1)) (.v 2)) (.c (.int c1)))) (.cons cellB (.cons bigB (mixB c1 p1 m2 p2 k m1 p3)))))))
/-- the numbers that a drawing is made with -/
structure NumsOk (m1 c1 p1 m2 p2 k p3 : Int) : Prop where
  h1 : 0 ≤ m1 ∧ m1 < 2 ^ 20
  h2 : 0 ≤ c1 ∧ c1 < 2 ^ 20
  h3 : 0 < p1 ∧ p1 < 2 ^ 32
  h4 : 0 ≤ m2 ∧ m2 < 2 ^ 20
  h5 : 0 < p2 ∧ p2 < 2 ^ 32
  h6 : 0 ≤ k ∧ k < 2 ^ 20
  h7 : 0 < p3 ∧ p3 < 2 ^ 32
theorem atI_nat {α : Type} {xs : List α} {i : Nat} (h : i < xs.length) : L2.atI xs (i : Int) = xs[i]? := by
  unfold L2.atI L2.ixN
  rw [if_pos (Int.natCast_nonneg i), if_pos (by omega)]
  rfl
section
variable {F : CF} {c : List Int} {R : Sto} {ρ : Env}
/-- what is held is used up -/
theorem held_ok {many t h x : Int} {a2 a3 a4 : Option D} (hm : 0 < many) (hmb : many < 2 ^ 63) :
    exs F w heldB [some (.ref 0), some (.int many), a2, a3, a4, some (.int x)] (some (shelf c t h) :: R) = some (.rt (.int (x % many)), some (shelf c t (x / many)) :: R) := by
  have e1 : opD .FloorDiv (.int x) (.int many) = some (.int (x / many)) := op_div hm (by omega)
  have e2 : opD .Mod (.int x) (.int many) = some (.int (x % many)) := op_mod hm
  simp [heldB, exs, ex, ev, evs, see, seeAll, biD, e1, e2, shelf, L2.ixN, D.pure, isObj]
theorem mul_b {a b A B : Int} (h1 : 0 ≤ a) (h2 : a ≤ A) (h3 : 0 ≤ b) (h4 : b ≤ B) : 0 ≤ a * b ∧ a * b ≤ A * B :=
  ⟨Int.mul_nonneg h1 h3, Int.mul_le_mul h2 h4 h3 (by omega)⟩
theorem mix_ok {m1 c1 p1 m2 p2 k p3 many t cell : Int} {a4 a5 : Option D} {S : Sto} (K : NumsOk m1 c1 p1 m2 p2 k p3) (hm : 0 < many) (t0 : 0 ≤ t) (t1 : t ≤ 1000000) :
    ∃ r : Int, 0 ≤ r ∧ r < many ∧ exs F w (mixB c1 p1 m2 p2 k m1 p3) [some (.ref 0), some (.int many), some (.int t), some (.int cell), a4, a5] S = some (.rt (.int r), S) := by
  obtain ⟨⟨k1, k2⟩, ⟨k3, k4⟩, ⟨k5, k6⟩, ⟨k7, k8⟩, ⟨k9, k10⟩, ⟨k11, k12⟩, ⟨k13, k14⟩⟩ := K
  have b1 := Int.emod_nonneg cell (show p1 ≠ 0 by omega)
  have b2 := Int.emod_lt_of_pos cell k5
  obtain ⟨b3, b4⟩ := mul_b k7 (Int.le_of_lt k8) t0 t1
  generalize hx : cell % p1 + m2 * t + c1 = x
  have hx1 : x.natAbs < 2 ^ 64 := by omega
  generalize hy : x ^ 5 % p2 = y
  have b5 : 0 ≤ y := hy ▸ Int.emod_nonneg _ (show p2 ≠ 0 by omega)
  have b6 : y < p2 := hy ▸ Int.emod_lt_of_pos _ k9
  obtain ⟨b7, b8⟩ := mul_b b5 (show y ≤ 2 ^ 32 by omega) (show 0 ≤ 2 * t + k by omega) (show 2 * t + k ≤ 2000000 + 2 ^ 20 by omega)
  obtain ⟨b9, b10⟩ := mul_b k1 (Int.le_of_lt k2) t0 t1
  obtain ⟨b11, b12⟩ := mul_b b9 b10 t0 t1
  generalize hz : y * (2 * t + k) + m1 * t * t + m2 = z
  have hz1 : z.natAbs < 2 ^ 64 := by omega
  have e1 : opD .Mod (.int cell) (.int p1) = some (.int (cell % p1)) := op_mod k5
  have e2 : opD .Mult (.int m2) (.int t) = some (.int (m2 * t)) := op_mul (by omega)
  have e3 : opD .Pow (.int x) (.int 5) = some (.int (x ^ 5)) := op_pow (by decide) (by decide) hx1
  have e4 : opD .Mod (.int (x ^ 5)) (.int p2) = some (.int y) := by rw [op_mod k9, hy]
  have e5 : opD .Mult (.int y) (.int (2 * t + k)) = some (.int (y * (2 * t + k))) := op_mul (by omega)
  have e6 : opD .Mult (.int 2) (.int t) = some (.int (2 * t)) := op_mul (by decide)
  have e7 : opD .Mult (.int m1) (.int t) = some (.int (m1 * t)) := op_mul (by omega)
  have e8 : opD .Mult (.int (m1 * t)) (.int t) = some (.int (m1 * t * t)) := op_mul (by omega)
  have e9 : opD .Pow (.int z) (.int 3) = some (.int (z ^ 3)) := op_pow (by decide) (by decide) hz1
  have e10 : opD .Mod (.int (z ^ 3)) (.int p3) = some (.int (z ^ 3 % p3)) := op_mod k13
  have e11 : opD .FloorDiv (.int (z ^ 3 % p3)) (.int 64) = some (.int (z ^ 3 % p3 / 64)) := op_div (by decide) (by decide)
  have e12 : opD .Mod (.int (z ^ 3 % p3 / 64)) (.int many) = some (.int (z ^ 3 % p3 / 64 % many)) := op_mod hm
  refine ⟨z ^ 3 % p3 / 64 % many, Int.emod_nonneg _ (by omega), Int.emod_lt_of_pos _ hm, ?_⟩
  simp [mixB, exs, ex, ev, evs, see, seeAll, biD, e1, e2, op_add, hx, e3, e4, e5, e6, e7, e8, hz, e9, e10, e11, e12, setT]
/-- a cell is chosen -/
theorem cell_ok {many t t2 x : Int} {a4 a5 : Option D} {h : Int} (t0 : 0 ≤ t) :
    ∃ y : Int, ex F w cellB [some (.ref 0), some (.int many), some (.int t), some (.int x), a4, a5] (some (shelf c t2 h) :: R) = some (.nx [some (.ref 0), some (.int many), some (.int t), some (.int y), a4, a5], some (shelf c t2 h) :: R) := by
  have z1 : cmpD .NotEq (.lst (c.map D.int)) (.lst []) = some (!c.isEmpty) := by
    show (if _ then _ else _) = _
    rw [if_pos (by rw [ok_ints, ok_nil]; rfl), eqv_nil]
    cases c <;> rfl
  cases hc : c.isEmpty with
  | true =>
    rw [hc] at z1
    exact ⟨x, by simp [cellB, exs, ex, ev, evs, see, isObj_shelf, sh0, small, z1]⟩
  | false =>
    rw [hc] at z1
    have hl : 0 < c.length := by cases c with | nil => cases hc | cons a r => simp
    have q1 := Int.emod_nonneg t (show (c.length : Int) ≠ 0 by omega)
    have q2 := Int.emod_lt_of_pos t (show (0 : Int) < c.length by omega)
    obtain ⟨j, hj⟩ := Int.eq_ofNat_of_zero_le q1
    have hj2 : j < c.length := by omega
    have z2 : opD .Mod (.int t) (.int (c.length : Int)) = some (.int (j : Int)) := by rw [op_mod (by omega), hj]
    have z3 : ixD (.lst (c.map D.int)) (.int (j : Int)) = some (.int c[j]) := by
      show L2.atI (c.map D.int) (j : Int) = _
      rw [atI_nat (by simpa using hj2), List.getElem?_map, List.getElem?_eq_getElem hj2]
      rfl
    have z6 : biD .len [.lst (c.map D.int)] = some (.int c.length) := by simp [biD]
    have z7 : biD .int [.int t] = some (.int t) := rfl
    exact ⟨c[j], by simp [cellB, exs, ex, ev, evs, see, isObj_shelf, seeAll, z6, z7, sh0, z1, z2, z3, setT, small]⟩
/-- a great cell is held, or nothing is done -/
theorem big_ok {many t t2 x h : Int} {a4 a5 : Option D} (t0 : 0 ≤ t) (hm : 0 < many) (hmb : many < 2 ^ 63) :
    (∃ y : Int, 0 ≤ y ∧ ex F w bigB [some (.ref 0), some (.int many), some (.int t), some (.int x), a4, a5] (some (shelf c t2 h) :: R) = some (.rt (.int (y % many)), some (shelf c t2 (y / many)) :: R)) ∨
    ex F w bigB [some (.ref 0), some (.int many), some (.int t), some (.int x), a4, a5] (some (shelf c t2 h) :: R) = some (.nx [some (.ref 0), some (.int many), some (.int t), some (.int x), a4, a5], some (shelf c t2 h) :: R) := by
  have z1 : opD .Pow (.int 10) (.int 18) = some (.int (10 ^ 18)) := op_pow (by decide) (by decide) (by decide)
  have z5 : (if x < 0 then -x else x) = (x.natAbs : Int) := by split <;> omega
  by_cases hc : t < (c.length : Int)
  · by_cases hx : (10 : Int) ^ 18 ≤ (x.natAbs : Int)
    · refine .inl ⟨2 * ((x.natAbs : Int) - 10 ^ 18) + (if x < 0 then 1 else 0), by split <;> omega, ?_⟩
      have z2 : opD .Mult (.int 2) (.int ((x.natAbs : Int) - 10 ^ 18)) = some (.int (2 * ((x.natAbs : Int) - 10 ^ 18))) := op_mul (by decide)
      have z3 : biD .int [.bl (decide (x < 0))] = some (.int (if x < 0 then 1 else 0)) := by by_cases q : x < 0 <;> simp [biD, q]
      have z4 : biD .abs [.int x] = some (.int (x.natAbs : Int)) := by rw [← z5]; rfl
      have z6 : biD .len [.lst (c.map D.int)] = some (.int c.length) := by simp [biD]
      have z7 : cmpD .Lt (.int t) (.int c.length) = some true := by simp [cmpD, hc]
      have z8 : cmpD .GtE (.int (x.natAbs : Int)) (.int (10 ^ 18)) = some true := congrArg some (decide_eq_true hx)
      have z9 : cmpD .Lt (.int x) (.int 0) = some (decide (x < 0)) := rfl
      simp only [bigB, exs, ex, ev, evs, see, isObj_shelf, Bool.false_eq_true, if_false, seeAll, List.getElem?_cons_zero, List.getElem?_cons_succ, sh0, z6, z7, z4, z1, z8, z9, z2, z3, op_sub, op_add, setT, List.set_cons_succ, List.set_cons_zero, held_ok hm hmb]
    · refine .inr ?_
      have z4 : biD .abs [.int x] = some (.int (x.natAbs : Int)) := by rw [← z5]; rfl
      have z6 : biD .len [.lst (c.map D.int)] = some (.int c.length) := by simp [biD]
      have z7 : cmpD .Lt (.int t) (.int c.length) = some true := by simp [cmpD, hc]
      have z8 : cmpD .GtE (.int (x.natAbs : Int)) (.int (10 ^ 18)) = some false := congrArg some (decide_eq_false hx)
      simp only [bigB, exs, ex, ev, evs, see, isObj_shelf, Bool.false_eq_true, if_false, seeAll, List.getElem?_cons_zero, List.getElem?_cons_succ, sh0, z6, z7, z4, z1, z8]
  · refine .inr ?_
    have z6 : biD .len [.lst (c.map D.int)] = some (.int c.length) := by simp [biD]
    have z7 : cmpD .Lt (.int t) (.int c.length) = some false := by simp [cmpD, hc]
    simp only [bigB, exs, ex, ev, evs, see, isObj_shelf, Bool.false_eq_true, if_false, seeAll, List.getElem?_cons_zero, List.getElem?_cons_succ, sh0, z6, z7]
end
/-- a drawing: a number below many -/
theorem reach_ok {m1 c1 p1 m2 p2 k p3 : Int} {f : Nat} (hT : T[f]? = some ⟨2, 6, reachB m1 c1 p1 m2 p2 k p3⟩) (K : NumsOk m1 c1 p1 m2 p2 k p3) {many t h : Int} {c : List Int} {R : Sto} (hm : 0 < many) (hmb : many < 2 ^ 63) (t0 : 0 ≤ t) (t1 : t ≤ 1000000) (h0 : 0 ≤ h) :
    ∃ r t' h' : Int, 0 ≤ r ∧ r < many ∧ t ≤ t' ∧ t' ≤ t + 1 ∧ 0 ≤ h' ∧ run T w (n + 1) f [.ref 0, .int many] (some (shelf c t h) :: R) = some (.int r, some (shelf c t' h') :: R) := by
  have fin : ∀ {r t' h' : Int}, exs (run T w n) w (reachB m1 c1 p1 m2 p2 k p3) [some (.ref 0), some (.int many), none, none, none, none] (some (shelf c t h) :: R) = some (.rt (.int r), some (shelf c t' h') :: R) →
      run T w (n + 1) f [.ref 0, .int many] (some (shelf c t h) :: R) = some (.int r, some (shelf c t' h') :: R) := fun e => by
    rw [run_rt hT rfl e]
    simp [leave, D.pure]
  by_cases hh : 0 < h
  · refine ⟨h % many, t, h / many, Int.emod_nonneg _ (by omega), Int.emod_lt_of_pos _ hm, by omega, by omega, Int.ediv_nonneg h0 (by omega), fin ?_⟩
    have z1 : cmpD .Gt (.int h) (.int 0) = some true := by simp [cmpD, hh]
    simp only [reachB, exs, ex, ev, evs, see, isObj_shelf, Bool.false_eq_true, if_false, seeAll, List.getElem?_cons_zero, List.getElem?_cons_succ, sh2, z1, setT, List.set_cons_succ, List.set_cons_zero, held_ok hm hmb]
  · have z1 : cmpD .Gt (.int h) (.int 0) = some false := by simp [cmpD, hh]
    have z2 : opD .Mult (.int m1) (.int t) = some (.int (m1 * t)) := op_mul (by have := K.h1; omega)
    have z3 : L2.ixN (shelf c t h).length 1 = some 1 := rfl
    have z4 : (shelf c t h).set 1 (.int (t + 1)) = shelf c (t + 1) h := rfl
    obtain ⟨y, hy⟩ := cell_ok (F := run T w n) (w := w) (c := c) (R := R) (many := many) (t := t) (t2 := t + 1) (x := m1 * t + c1) (a4 := none) (a5 := none) (h := h) t0
    have base : ∀ {o}, exs (run T w n) w (.cons cellB (.cons bigB (mixB c1 p1 m2 p2 k m1 p3))) [some (.ref 0), some (.int many), some (.int t), some (.int (m1 * t + c1)), none, none] (some (shelf c (t + 1) h) :: R) = o →
        exs (run T w n) w (reachB m1 c1 p1 m2 p2 k p3) [some (.ref 0), some (.int many), none, none, none, none] (some (shelf c t h) :: R) = o := fun e => by
      rw [← e]
      simp only [reachB, exs, ex, ev, evs, see, isObj_shelf, Bool.false_eq_true, if_false, seeAll, List.getElem?_cons_zero, List.getElem?_cons_succ, sh1, sh2, z1, z2, op_add, z3, z4, setT, List.set_cons_succ, List.set_cons_zero, D.pure, if_true]
    rcases big_ok (F := run T w n) (w := w) (c := c) (R := R) (t2 := t + 1) (x := y) (a4 := none) (a5 := none) (h := h) t0 hm hmb with ⟨z, q1, q2⟩ | q2
    · exact ⟨z % many, t + 1, z / many, Int.emod_nonneg _ (by omega), Int.emod_lt_of_pos _ hm, by omega, by omega, Int.ediv_nonneg q1 (by omega), fin (base (by simp only [exs, hy, q2]))⟩
    · obtain ⟨r, r0, r1, q3⟩ := mix_ok (F := run T w n) (w := w) (cell := y) (a4 := none) (a5 := none) (S := some (shelf c (t + 1) h) :: R) K hm t0 t1
      exact ⟨r, t + 1, h, r0, r1, by omega, by omega, h0, fin (base (by simp only [exs, hy, q2, q3]))⟩
end Iv

set_option Elab.async false
set_option linter.all false
set_option maxRecDepth 100000
set_option maxHeartbeats 4000000
namespace Iv
open PySem
variable {T : List Fn} {w n : Nat}
theorem leave_same {S S' : Sto} {d : D} (h : S'.length = S.length) : leave S.length d S' = S' := by
  unfold leave
  split
  · exact List.take_of_length_le (by omega)
  · rfl

mutual
theorem under_mono {m k : Nat} (h : m ≤ k) : ∀ d : D, D.under m d = true → D.under k d = true
  | .non, _ => rfl
  | .bl _, _ => rfl
  | .int _, _ => rfl
  | .str _, _ => rfl
  | .tup xs, q => unders_mono h xs q
  | .lst xs, q => unders_mono h xs q
  | .ref i, q => by
    have q' : decide (i < m) = true := q
    exact decide_eq_true (Nat.lt_of_lt_of_le (of_decide_eq_true q') h)
  | .cl _ _, _ => rfl
  | .dct, _ => rfl
theorem unders_mono {m k : Nat} (h : m ≤ k) : ∀ xs : List D, D.unders m xs = true → D.unders k xs = true
  | [], _ => rfl
  | d :: xs, q => by
    have q' : (D.under m d && D.unders m xs) = true := q
    rw [Bool.and_eq_true] at q'
    show (D.under k d && D.unders k xs) = true
    rw [under_mono h d q'.1, unders_mono h xs q'.2]; rfl
end
mutual
theorem pure_under {m : Nat} : ∀ d : D, D.pure d = true → D.under m d = true
  | .non, _ => rfl
  | .bl _, _ => rfl
  | .int _, _ => rfl
  | .str _, _ => rfl
  | .tup xs, q => pures_unders xs q
  | .lst xs, q => pures_unders xs q
  | .ref i, q => by cases q
  | .cl _ _, q => rfl
  | .dct, q => rfl
theorem pures_unders {m : Nat} : ∀ xs : List D, D.pures xs = true → D.unders m xs = true
  | [], _ => rfl
  | d :: xs, q => by
    have q' : (D.pure d && D.pures xs) = true := q
    rw [Bool.and_eq_true] at q'
    show (D.under m d && D.unders m xs) = true
    rw [pure_under d q'.1, pures_unders xs q'.2]; rfl
end
/-- nothing in the store speaks of places that are not there -/
def clo (S : Sto) : Prop := closedS S.length S = true
theorem leave_clo {S X : Sto} {d : D} (h : clo S) (p : D.pure d = true) : leave S.length d (S ++ X) = S := by
  unfold leave
  rw [List.take_left, p, Bool.true_or, Bool.true_and, if_pos (show closedS S.length S = true from h)]
theorem closed_mono {S : Sto} {m k : Nat} (h : m ≤ k) (q : closedS m S = true) : closedS k S = true := by
  unfold closedS at *
  rw [List.all_eq_true] at *
  intro o ho
  have := q o ho
  cases o with
  | none => rfl
  | some xs => exact unders_mono h xs this
theorem run_rtc {f : Nat} {fn : Fn} {ds : List D} {S X : Sto} {d : D} (h : T[f]? = some fn) (hl : ds.length = fn.ar) (hc : clo S) (hp : D.pure d = true) (e : exs (run T w n) w fn.body (ds.map some ++ List.replicate (fn.sl - fn.ar) none) S = some (.rt d, S ++ X)) : run T w (n + 1) f ds S = some (d, S) := by
  rw [run_rt h hl e, leave_clo hc hp]
theorem run_rts {f : Nat} {fn : Fn} {ds : List D} {S S1 : Sto} {d : D} (h : T[f]? = some fn) (hl : ds.length = fn.ar) (hs : S1.length = S.length) (e : exs (run T w n) w fn.body (ds.map some ++ List.replicate (fn.sl - fn.ar) none) S = some (.rt d, S1)) : run T w (n + 1) f ds S = some (d, S1) := by
  rw [run_rt h hl e, leave_same hs]
theorem run_nxs {f : Nat} {fn : Fn} {ds : List D} {S S1 : Sto} {ρ : Env} (h : T[f]? = some fn) (hl : ds.length = fn.ar) (hs : S1.length = S.length) (e : exs (run T w n) w fn.body (ds.map some ++ List.replicate (fn.sl - fn.ar) none) S = some (.nx ρ, S1)) : run T w (n + 1) f ds S = some (.non, S1) := by
  rw [run_nx h hl e, leave_same hs]

inductive Wr where
  | nm (x : Str) | of (x : Str) (b : Wr) | to (a b : Wr)
def Wr.size : Wr → Nat
  | .nm _ => 1
  | .of _ b => b.size + 1
  | .to a b => a.size + b.size + 1
def Wr.dp : Wr → Nat
  | .nm _ => 0
  | .of _ b => b.dp + 1
  | .to a b => max a.dp b.dp + 1
def Wr.names : Wr → List Str
  | .nm x => [x]
  | .of x b => x :: b.names
  | .to a b => a.names ++ b.names
def Wr.enc : Wr → D
  | .nm x => .str x
  | .of x b => .tup [.str "of", .str x, b.enc]
  | .to a b => .tup [.str "to", a.enc, b.enc]
def Wr.encL : Wr → D
  | .nm x => .str x
  | .of x b => .lst [.str "of", .str x, b.encL]
  | .to a b => .lst [.str "to", a.encL, b.encL]
theorem Wr.pure_enc : ∀ w : Wr, w.enc.pure = true
  | .nm _ => rfl
  | .of _ b => by simp [Wr.enc, D.pure, D.pures, b.pure_enc]
  | .to a b => by simp [Wr.enc, D.pure, D.pures, a.pure_enc, b.pure_enc]
theorem Wr.size_pos : ∀ w : Wr, 0 < w.size
  | .nm _ => Nat.zero_lt_one
  | .of _ b => Nat.succ_pos _
  | .to _ _ => Nat.succ_pos _

/-- the first of the drawing's numbers -/
theorem closed_app {k : Nat} {A B : Sto} (h1 : closedS k A = true) (h2 : closedS k B = true) : closedS k (A ++ B) = true := by
  unfold closedS at *
  rw [List.all_append, h1, h2]; rfl
theorem clo_app {S X : Sto} (h : clo S) (h2 : closedS (S.length + X.length) X = true) : clo (S ++ X) := by
  unfold clo
  rw [List.length_append]
  exact closed_app (closed_mono (Nat.le_add_right _ _) h) h2
theorem clo_one {S : Sto} {xs : List D} (h : clo S) (h2 : D.pures xs = true) : clo (S ++ [some xs]) := clo_app h (by
  show (D.unders _ xs && true) = true
  rw [pures_unders xs h2]; rfl)
structure Dr (T : List Fn) (w f : Nat) (c : List Int) : Prop where
  ok : ∀ (n : Nat) (R : Sto) (many t h : Int), 0 < many → many < 2 ^ 63 → 0 ≤ t → t ≤ 1000000 → 0 ≤ h →
    ∃ r t' h' : Int, 0 ≤ r ∧ r < many ∧ t ≤ t' ∧ t' ≤ t + 1 ∧ 0 ≤ h' ∧ run T w (n + 1) f [.ref 0, .int many] (some (shelf c t h) :: R) = some (.int r, some (shelf c t' h') :: R)
theorem dr_of {m1 c1 p1 m2 p2 k p3 : Int} {f : Nat} {c : List Int} (hT : T[f]? = some ⟨2, 6, reachB m1 c1 p1 m2 p2 k p3⟩) (K : NumsOk m1 c1 p1 m2 p2 k p3) : Dr T w f c :=
  ⟨fun n R many t h h1 h2 h3 h4 h5 => reach_ok hT K h1 h2 h3 h4 h5⟩
def oneB (rc : Nat) : Ss := (.cons (.ret (.ix (.v 1) (.call rc (.cons (.v 0) (.cons (.bi .len (.cons (.v 1) .nil)) .nil))))) .nil)
theorem len_lst (xs : List D) : biD .len [.lst xs] = some (.int xs.length) := rfl
theorem len_tup (xs : List D) : biD .len [.tup xs] = some (.int xs.length) := rfl
theorem ix_lst (xs : List D) (i : Int) : ixD (.lst xs) (.int i) = L2.atI xs i := rfl
theorem ix_tup (xs : List D) (i : Int) : ixD (.tup xs) (.int i) = L2.atI xs i := rfl
/-- one of some -/
theorem one_ok {rc f : Nat} {c : List Int} (D0 : Dr T w rc c) (hT : T[f]? = some ⟨2, 2, oneB rc⟩) {xs : List D} (hx : xs ≠ []) (hl : xs.length < 2 ^ 60) {R : Sto} {t h : Int} (t0 : 0 ≤ t) (t1 : t ≤ 1000000) (h0 : 0 ≤ h) :
    ∃ (j : Nat) (x : D) (t' h' : Int), xs[j]? = some x ∧ t ≤ t' ∧ t' ≤ t + 1 ∧ 0 ≤ h' ∧ run T w (n + 2) f [.ref 0, .lst xs] (some (shelf c t h) :: R) = some (x, some (shelf c t' h') :: R) := by
  have hp : 0 < xs.length := List.length_pos_iff.mpr hx
  obtain ⟨r, t', h', r0, r1, q1, q2, q3, e⟩ := D0.ok n R xs.length t h (by omega) (by omega) t0 t1 h0
  obtain ⟨j, rfl⟩ := Int.eq_ofNat_of_zero_le r0
  have hj : j < xs.length := by omega
  refine ⟨j, xs[j], t', h', List.getElem?_eq_getElem hj, q1, q2, q3, run_rts hT rfl rfl ?_⟩
  have z : ixD (.lst xs) (.int (j : Int)) = some xs[j] := by rw [ix_lst, atI_nat hj, List.getElem?_eq_getElem hj]
  simp [oneB, exs, ex, ev, evs, see, seeAll, len_lst, e, z]
theorem one_str {rc f : Nat} {c : List Int} (D0 : Dr T w rc c) (hT : T[f]? = some ⟨2, 2, oneB rc⟩) {xs : List Str} (hx : xs ≠ []) (hl : xs.length < 2 ^ 60) {R : Sto} {t h : Int} (t0 : 0 ≤ t) (t1 : t ≤ 1000000) (h0 : 0 ≤ h) :
    ∃ (x : Str) (t' h' : Int), x ∈ xs ∧ t ≤ t' ∧ t' ≤ t + 1 ∧ 0 ≤ h' ∧ run T w (n + 2) f [.ref 0, .lst (xs.map D.str)] (some (shelf c t h) :: R) = some (.str x, some (shelf c t' h') :: R) := by
  obtain ⟨j, d, t', h', hj, q⟩ := one_ok (n := n) D0 hT (xs := xs.map D.str) (by simpa using hx) (by simpa using hl) (R := R) t0 t1 h0
  rw [List.getElem?_map] at hj
  cases hx2 : xs[j]? with
  | none => rw [hx2] at hj; cases hj
  | some x =>
    rw [hx2] at hj
    cases hj
    exact ⟨x, t', h', List.mem_of_getElem? hx2, q⟩

def ofS (one f : Nat) : Ss := (.cons (.ret (.tup (.cons (.c (.str "of")) (.cons (.call one (.cons (.v 0) (.cons (.v 2) .nil))) (.cons (.call f (.cons (.v 0) (.cons (.op .Sub (.v 1) (.c (.int 1))) (.cons (.v 2) .nil)))) .nil))))) .nil)
def toS (f : Nat) : Ss := (.cons (.ret (.tup (.cons (.c (.str "to")) (.cons (.call f (.cons (.v 0) (.cons (.v 3) (.cons (.v 2) .nil)))) (.cons (.call f (.cons (.v 0) (.cons (.op .Sub (.op .Sub (.v 1) (.c (.int 1))) (.v 3)) (.cons (.v 2) .nil)))) .nil))))) .nil)
def drawnB (rc one self : Nat) : Ss := (.cons (.ifs (.cmp .Eq (.v 1) (.c (.int 1))) (.cons (.ret (.call one (.cons (.v 0) (.cons (.v 2) .nil)))) .nil) .nil) (.cons (.ifs (.or (.cmp .Eq (.v 1) (.c (.int 2))) (.and (.cmp .Lt (.v 1) (.c (.int 21))) (.cmp .Gt (.call rc (.cons (.v 0) (.cons (.c (.int 3)) .nil))) (.c (.int 0))))) (ofS one self) .nil) (.cons (.asg (.n 3) (.ite (.cmp .Lt (.v 1) (.c (.int 21))) (.op .Add (.c (.int 1)) (.call rc (.cons (.v 0) (.cons (.op .Sub (.v 1) (.c (.int 2))) .nil)))) (.op .Add (.bi .int (.cons (.op .FloorDiv (.v 1) (.c (.int 3))) .nil)) (.call rc (.cons (.v 0) (.cons (.bi .int (.cons (.op .FloorDiv (.v 1) (.c (.int 3))) .nil)) .nil)))))) (toS self))))
def dpb (s : Nat) : Nat := if s < 21 then s else 20 + s / 5
theorem drawn_ok {rc one f : Nat} {c : List Int} (D0 : Dr T w rc c) (h1 : T[one]? = some ⟨2, 2, oneB rc⟩) (hT : T[f]? = some ⟨3, 4, drawnB rc one f⟩) {ns : List Str} (hx : ns ≠ []) (hl : ns.length < 2 ^ 60) {R : Sto} :
    ∀ (s : Nat), 1 ≤ s → ∀ (n : Nat) (t h : Int), dpb s + 2 ≤ n → 0 ≤ t → t + 3 * s ≤ 1000000 → 0 ≤ h →
      ∃ (W : Wr) (t' h' : Int), (∀ x ∈ W.names, x ∈ ns) ∧ W.size ≤ s ∧ W.dp ≤ dpb s ∧ t ≤ t' ∧ t' ≤ t + 3 * s ∧ 0 ≤ h' ∧ run T w n f [.ref 0, .int s, .lst (ns.map D.str)] (some (shelf c t h) :: R) = some (W.enc, some (shelf c t' h') :: R) := by
  intro s
  induction s using Nat.strongRecOn with
  | ind s ih =>
    intro hs n t h hn t0 t1 h0
    obtain ⟨n, rfl⟩ : ∃ m, n = m + 3 := ⟨n - 3, by unfold dpb at hn; split at hn <;> omega⟩
    have sm3 : ∀ a b d : D, small [a, b, d].length = true := fun _ _ _ => rfl
    have d2 : 2 ≤ s → dpb (s - 1) + 1 ≤ dpb s ∨ 21 ≤ s := fun h2 => by
      unfold dpb
      by_cases h : s < 21
      · rw [if_pos h, if_pos (by omega)]; omega
      · exact .inr (by omega)
    have dto : ∀ p, (s < 21 → p + 1 ≤ s) → (21 ≤ s → p + s / 3 ≤ s) → dpb p + 1 ≤ dpb s := fun p a1 a2 => by
      unfold dpb
      split <;> split <;> omega
    -- of
    have hof : ∀ (t h : Int), 2 ≤ s → s < 21 → 0 ≤ t → t + (3 * s - 1) ≤ 1000000 → 0 ≤ h → ∃ (W : Wr) (t' h' : Int), (∀ x ∈ W.names, x ∈ ns) ∧ W.size ≤ s ∧ W.dp ≤ dpb s ∧ t ≤ t' ∧ t' ≤ t + (3 * s - 1) ∧ 0 ≤ h' ∧
        exs (run T w (n + 2)) w (ofS one f) [some (.ref 0), some (.int s), some (.lst (ns.map D.str)), none] (some (shelf c t h) :: R) = some (.rt W.enc, some (shelf c t' h') :: R) := by
      intro t h h2 h21 t0 t1 h0
      obtain ⟨x, t2, h2', q1, q2, q3, q4, q5⟩ := one_str (n := n) D0 h1 hx hl (R := R) t0 (by omega) h0
      obtain ⟨W, t3, h3', p1, p2, p3, p4, p5, p6, p7⟩ := ih (s - 1) (by omega) (by omega) (n + 2) t2 h2' (by have := dto (s - 1) (by omega) (by omega); omega) (by omega) (by omega) q4
      have es : (s : Int) - 1 = ((s - 1 : Nat) : Int) := by omega
      refine ⟨.of x W, t3, h3', fun y hy => ?_, by simp only [Wr.size]; omega, by have := dto (s - 1) (by omega) (by omega); simp only [Wr.dp]; omega, by omega, by omega, p6, ?_⟩
      · rcases List.mem_cons.mp hy with rfl | hy
        · exact q1
        · exact p1 y hy
      · simp [ofS, exs, ex, ev, evs, see, q5, op_sub, es, p7, Wr.enc, small]
    have hto : ∀ (t h : Int) (p : Nat), 1 ≤ p → p + 2 ≤ s → (21 ≤ s → s / 3 ≤ p ∧ p ≤ s - s / 3) → 0 ≤ t → t + 3 * (s - 1) ≤ 1000000 → 0 ≤ h → ∃ (W : Wr) (t' h' : Int), (∀ x ∈ W.names, x ∈ ns) ∧ W.size ≤ s ∧ W.dp ≤ dpb s ∧ t ≤ t' ∧ t' ≤ t + 3 * (s - 1) ∧ 0 ≤ h' ∧
        exs (run T w (n + 2)) w (toS f) [some (.ref 0), some (.int s), some (.lst (ns.map D.str)), some (.int p)] (some (shelf c t h) :: R) = some (.rt W.enc, some (shelf c t' h') :: R) := by
      intro t h p h1 h2 h3 t0 t1 h0
      have e1 := dto p (by omega) (by omega)
      have e2 := dto (s - 1 - p) (by omega) (by omega)
      obtain ⟨W1, t2, h2', q1, q2, q3, q4, q5, q6, q7⟩ := ih p (by omega) h1 (n + 2) t h (by omega) t0 (by omega) h0
      obtain ⟨W2, t3, h3', p1, p2, p3, p4, p5, p6, p7⟩ := ih (s - 1 - p) (by omega) (by omega) (n + 2) t2 h2' (by omega) (by omega) (by omega) q6
      have es : (s : Int) - 1 - (p : Int) = ((s - 1 - p : Nat) : Int) := by omega
      refine ⟨.to W1 W2, t3, h3', fun y hy => ?_, by simp only [Wr.size]; omega, by simp only [Wr.dp]; omega, by omega, by omega, p6, ?_⟩
      · rcases List.mem_append.mp hy with hy | hy
        · exact q1 y hy
        · exact p1 y hy
      · simp [toS, exs, ex, ev, evs, see, q7, op_sub, es, p7, Wr.enc, small]
    have fin : ∀ {W : Wr} {t' h' : Int}, exs (run T w (n + 2)) w (drawnB rc one f) [some (.ref 0), some (.int s), some (.lst (ns.map D.str)), none] (some (shelf c t h) :: R) = some (.rt W.enc, some (shelf c t' h') :: R) →
        run T w (n + 3) f [.ref 0, .int s, .lst (ns.map D.str)] (some (shelf c t h) :: R) = some (W.enc, some (shelf c t' h') :: R) := fun e => run_rts hT rfl rfl e
    by_cases c1 : s = 1
    · subst c1
      obtain ⟨x, t2, h2', q1, q2, q3, q4, q5⟩ := one_str (n := n) D0 h1 hx hl (R := R) t0 (by omega) h0
      refine ⟨.nm x, t2, h2', fun y hy => by rw [List.mem_singleton.mp hy]; exact q1, Nat.le_refl _, Nat.zero_le _, q2, by omega, q4, fin ?_⟩
      simp [drawnB, exs, ex, ev, evs, see, cmpD, q5, Wr.enc]
    have z1 : cmpD .Eq (.int s) (.int 1) = some false := congrArg some (decide_eq_false (by omega))
    by_cases c2 : s = 2
    · have z2 : cmpD .Eq (.int s) (.int 2) = some true := congrArg some (decide_eq_true (by omega))
      obtain ⟨W, t', h', q1, q2, q3, q4, q5, q6, q7⟩ := hof t h (by omega) (by omega) t0 (by omega) h0
      refine ⟨W, t', h', q1, q2, q3, q4, by omega, q6, fin ?_⟩
      simp only [drawnB, exs, ex, ev, see, List.getElem?_cons_zero, List.getElem?_cons_succ, z1, z2, q7]
    have z2 : cmpD .Eq (.int s) (.int 2) = some false := congrArg some (decide_eq_false (by omega))
    by_cases c3 : s < 21
    · have z3 : cmpD .Lt (.int s) (.int 21) = some true := congrArg some (decide_eq_true (by omega))
      obtain ⟨r, t1', h1', r0, r1, q1, q2, q3, q4⟩ := D0.ok (n + 1) R 3 t h (by decide) (by decide) t0 (by omega) h0
      by_cases cr : 0 < r
      · have z4 : cmpD .Gt (.int r) (.int 0) = some true := congrArg some (decide_eq_true cr)
        obtain ⟨W, t', h', p1, p2, p3, p4, p5, p6, p7⟩ := hof t1' h1' (by omega) c3 (by omega) (by omega) q3
        refine ⟨W, t', h', p1, p2, p3, by omega, by omega, p6, fin ?_⟩
        simp only [drawnB, exs, ex, ev, evs, see, List.getElem?_cons_zero, List.getElem?_cons_succ, z1, z2, z3, q4, z4, p7]
      · have z4 : cmpD .Gt (.int r) (.int 0) = some false := congrArg some (decide_eq_false cr)
        obtain ⟨r2, t2', h2', y0, y1, y2, y3, y4, y5⟩ := D0.ok (n + 1) R ((s : Int) - 2) t1' h1' (by omega) (by omega) (by omega) (by omega) q3
        obtain ⟨W, t', h', p1, p2, p3, p4, p5, p6, p7⟩ := hto t2' h2' (1 + r2).toNat (by omega) (by omega) (by omega) (by omega) (by omega) y4
        rw [show (((1 + r2).toNat : Nat) : Int) = 1 + r2 by omega] at p7
        refine ⟨W, t', h', p1, p2, p3, by omega, by omega, p6, fin ?_⟩
        simp only [drawnB, exs, ex, ev, evs, see, List.getElem?_cons_zero, List.getElem?_cons_succ, z1, z2, z3, q4, z4, op_sub, y5, op_add, setT, List.set_cons_succ, List.set_cons_zero, p7]
    · have z3 : cmpD .Lt (.int s) (.int 21) = some false := congrArg some (decide_eq_false (by omega))
      have z5 : opD .FloorDiv (.int s) (.int 3) = some (.int ((s : Int) / 3)) := op_div (by decide) (by decide)
      have z6 : biD .int [.int ((s : Int) / 3)] = some (.int ((s : Int) / 3)) := rfl
      obtain ⟨r2, t2', h2', y0, y1, y2, y3, y4, y5⟩ := D0.ok (n + 1) R ((s : Int) / 3) t h (by omega) (by omega) (by omega) (by omega) h0
      obtain ⟨W, t', h', p1, p2, p3, p4, p5, p6, p7⟩ := hto t2' h2' ((s : Int) / 3 + r2).toNat (by omega) (by omega) (by omega) (by omega) (by omega) y4
      rw [show ((((s : Int) / 3 + r2).toNat : Nat) : Int) = (s : Int) / 3 + r2 by omega] at p7
      refine ⟨W, t', h', p1, p2, p3, by omega, by omega, p6, fin ?_⟩
      simp only [drawnB, exs, ex, ev, evs, see, seeAll, List.getElem?_cons_zero, List.getElem?_cons_succ, z1, z2, z3, z5, z6, y5, op_add, setT, List.set_cons_succ, List.set_cons_zero, p7]
end Iv

set_option Elab.async false
set_option linter.all false
set_option maxRecDepth 100000
set_option maxHeartbeats 4000000
namespace Iv
open PySem
variable {T : List Fn} {w n : Nat}
theorem compRun_map {f : D → Sto → Option (Option D × Sto)} {g : D → D} {S : Sto} : ∀ (xs acc : List D), (∀ d ∈ xs, f d S = some (some (g d), S)) → acc.length + xs.length ≤ 100000 → compRun f xs acc S = some (acc ++ xs.map g, S)
  | [], acc, _, _ => by simp [compRun]
  | d :: ds, acc, h, hl => by
    simp only [List.length_cons] at hl
    have ih := compRun_map (f := f) (g := g) (S := S) ds (acc ++ [g d]) (fun e he => h e (List.mem_cons_of_mem _ he)) (by simp; omega)
    simp [compRun, h d List.mem_cons_self, small, show acc.length + 1 ≤ 100000 by omega, ih]
theorem ev_comp {F : CF} {t : Tg} {it elt : E} {ρ : Env} {S S1 : Sto} {x : D} {xs : List D} {g : D → D} (h1 : ev F it ρ S = some (x, S1)) (h2 : items x = some xs) (h3 : ∀ d ∈ xs, ∃ ρ', setT t d (wipeT t ρ) = some ρ' ∧ ev F elt ρ' S1 = some (g d, S1)) (hl : xs.length ≤ 100000) :
    ev F (.comp false t it elt) ρ S = some (.lst (xs.map g), S1) := by
  simp only [ev, h1, h2]
  rw [compRun_map (g := g) xs [] (fun d hd => by
        obtain ⟨ρ', e1, e2⟩ := h3 d hd
        simp only [e1, e2]) (by simpa using hl)]
  rfl
theorem compRun_filter {f : D → Sto → Option (Option D × Sto)} {p : D → Bool} {S : Sto} : ∀ (xs acc : List D), (∀ d ∈ xs, f d S = some (if p d then some d else none, S)) → acc.length + xs.length ≤ 100000 → compRun f xs acc S = some (acc ++ xs.filter p, S)
  | [], acc, _, _ => by simp [compRun]
  | d :: ds, acc, h, hl => by
    simp only [List.length_cons] at hl
    have hd := h d List.mem_cons_self
    have hr : ∀ e ∈ ds, f e S = some (if p e then some e else none, S) := fun e he => h e (List.mem_cons_of_mem _ he)
    cases q : p d with
    | true =>
      have ih := compRun_filter (f := f) (p := p) (S := S) ds (acc ++ [d]) hr (by simp; omega)
      rw [q] at hd
      simp [compRun, hd, small, show acc.length + 1 ≤ 100000 by omega, ih, q]
    | false =>
      have ih := compRun_filter (f := f) (p := p) (S := S) ds acc hr (by omega)
      rw [q] at hd
      simp [compRun, hd, ih, q]
theorem ev_filter {F : CF} {i : Nat} {it cond : E} {ρ : Env} {S S1 : Sto} {x : D} {xs : List D} {p : D → Bool} (h1 : ev F it ρ S = some (x, S1)) (h2 : items x = some xs) (hi : i < ρ.length) (h3 : ∀ d ∈ xs, ev F cond ((ρ.set i none).set i (some d)) S1 = some (.bl (p d), S1)) (hl : xs.length ≤ 100000) :
    ev F (.compI false (.n i) it cond (.v i)) ρ S = some (.lst (xs.filter p), S1) := by
  have e1 : ∀ d, ((ρ.set i none).set i (some d))[i]? = some (some d) := fun d => by
    simp [List.getElem?_set, hi]
  simp only [ev, h1, h2]
  rw [compRun_filter (p := p) xs [] (fun d hd => by
        have e2 := h3 d hd
        simp only [setT, wipeT, e2, e1]
        cases q : p d <;> rfl) (by simpa using hl)]
  rfl
theorem eqv_str (a b : Str) : D.eqv (.str a) (.str b) = decide (a = b) := by
  simp [D.eqv, D.py, PyData.eqv]
  rw [Bool.eq_iff_iff]
  simp
theorem bls_map (f : D → Bool) : ∀ xs : List D, bls? (xs.map fun d => .bl (f d)) = some (xs.map f)
  | [] => rfl
  | x :: xs => by simp [bls?, bls_map f xs]
theorem in_sign (c : Nat) (z : Str) : cmpD .In (.str ⟨#[c]⟩) (.str z) = some (decide (c ∈ z.cps.toList)) := by
  simp [cmpD, Str.length]
theorem notin_sign (c : Nat) (z : Str) : cmpD .NotIn (.str ⟨#[c]⟩) (.str z) = some (!decide (c ∈ z.cps.toList)) := by
  simp [cmpD, Str.length]
theorem in_tup {x : D} {ys : List D} (h : x.flat = true) (h2 : ys.all D.flat = true) : cmpD .In x (.tup ys) = some (inFlat x ys) := by
  simp only [cmpD, h, h2, Bool.and_self, if_true]
theorem in_lst {x : D} {ys : List D} (h : x.flat = true) (h2 : ys.all D.flat = true) : cmpD .In x (.lst ys) = some (inFlat x ys) := by
  simp only [cmpD, h, h2, Bool.and_self, if_true]
theorem notin_tup {x : D} {ys : List D} (h : x.flat = true) (h2 : ys.all D.flat = true) : cmpD .NotIn x (.tup ys) = some (!inFlat x ys) := by
  simp only [cmpD, h, h2, Bool.and_self, if_true]
theorem notin_lst {x : D} {ys : List D} (h : x.flat = true) (h2 : ys.all D.flat = true) : cmpD .NotIn x (.lst ys) = some (!inFlat x ys) := by
  simp only [cmpD, h, h2, Bool.and_self, if_true]
def letters : Str := "abcdefghijklmnopqrstuvwxyz"
def digits : Str := "0123456789"
/-- a name, as the text has it -/
def nmOk (x : Str) : Bool := decide (1 ≤ x.length) && decide (x.length ≤ 12) && !decide (x = "of") && !decide (x = "to") && decide (x.cps.toList.headD 0 ∈ letters.cps.toList) && x.cps.toList.all fun c => decide (c ∈ (letters ++ digits).cps.toList)
def nmComp : E := (.comp false (.n 1) (.v 0) (.cmp .In (.v 1) (.op .Add (.g "LETTERS" (.str "abcdefghijklmnopqrstuvwxyz")) (.g "DIGITS" (.str "0123456789")))))
def isNameB : Ss := (.cons (.ifs (.or (.not (.isi (.v 0) [.str])) (.or (.not (.chain .LtE .LtE (.c (.int 1)) (.bi .len (.cons (.v 0) .nil)) (.g "MOST_NAME" (.int 12)))) (.or (.cmp .In (.v 0) (.g "WORDS" (.tup [(.str "of"), (.str "to")]))) (.cmp .NotIn (.ix (.v 0) (.c (.int 0))) (.g "LETTERS" (.str "abcdefghijklmnopqrstuvwxyz")))))) (.cons (.ret (.c (.bl false))) .nil) .nil) (.cons (.ret (.bi .all (.cons nmComp .nil))) .nil))
theorem isName_ok {f : Nat} (hT : T[f]? = some ⟨1, 2, isNameB⟩) {x : Str} (h : nmOk x = true) (S : Sto) : run T w (n + 1) f [.str x] S = some (.bl true, S) := by
  simp only [nmOk, Bool.and_eq_true, decide_eq_true_eq, Bool.not_eq_true', decide_eq_false_iff_not] at h
  obtain ⟨⟨⟨⟨⟨h1, h2⟩, h3⟩, h4⟩, h5⟩, h6⟩ := h
  refine run_rts hT rfl rfl ?_
  have z0 : small x.length = true := decide_eq_true (by omega)
  have z1 : biD .len [.str x] = some (.int x.length) := by show (if _ then _ else _) = _; rw [if_pos z0]
  have z2 : cmpD .LtE (.int 1) (.int x.length) = some true := congrArg some (decide_eq_true (by omega))
  have z3 : cmpD .LtE (.int x.length) (.int 12) = some true := congrArg some (decide_eq_true (by omega))
  have z4 : cmpD .In (.str x) (.tup [.str "of", .str "to"]) = some false := by
    have e : inFlat (.str x) [.str "of", .str "to"] = false := by
      simp only [inFlat, List.any_cons, List.any_nil, eqv_str, Bool.or_false]
      rw [decide_eq_false (fun z => h3 z.symm), decide_eq_false (fun z => h4 z.symm)]
      rfl
    rw [in_tup rfl rfl, e]
  obtain ⟨c0, r, hc⟩ : ∃ c0 r, x.cps.toList = c0 :: r := by
    cases q : x.cps.toList with
    | nil =>
      have : x.length = 0 := by show x.cps.size = 0; rw [← Array.length_toList, q]; rfl
      omega
    | cons a b => exact ⟨a, b, rfl⟩
  have z5 : ixD (.str x) (.int 0) = some (.str ⟨#[c0]⟩) := by
    show (if _ then _ else _) = _
    rw [if_pos z0, hc, show (0 : Int) = ((0 : Nat) : Int) from rfl, atI_nat (by simp)]
    rfl
  rw [hc] at h5
  have z6 : cmpD .NotIn (.str ⟨#[c0]⟩) (.str "abcdefghijklmnopqrstuvwxyz") = some false := by
    rw [notin_sign]
    have e : decide (c0 ∈ letters.cps.toList) = true := decide_eq_true h5
    exact congrArg some (congrArg not e)
  have z7 : opD .Add (.str "abcdefghijklmnopqrstuvwxyz") (.str "0123456789") = some (.str (letters ++ digits)) := rfl
  have z8 : items (.str x) = some (x.cps.toList.map fun c => .str ⟨#[c]⟩) := rfl
  have z9 : ∀ c ∈ x.cps.toList, cmpD .In (.str ⟨#[c]⟩) (.str (letters ++ digits)) = some true := fun c hc => by
    rw [in_sign]
    exact congrArg some (List.all_eq_true.mp h6 c hc)
  have zl : x.cps.toList.length ≤ 12 := by rw [Array.length_toList]; exact h2
  have z10 : ev (run T w n) nmComp [some (.str x), none] S = some (.lst ((x.cps.toList.map fun c => D.str ⟨#[c]⟩).map fun _ => .bl true), S) :=
    ev_comp rfl z8 (fun d hd => by
      obtain ⟨c, hc, rfl⟩ := List.mem_map.mp hd
      refine ⟨_, rfl, ?_⟩
      simp only [wipeT, ev, see, List.set_cons_succ, List.set_cons_zero, List.getElem?_cons_zero, List.getElem?_cons_succ, z7, z9 c hc]) (by simp only [List.length_map]; omega)
  have z11 : biD .all [.lst ((x.cps.toList.map fun c => D.str ⟨#[c]⟩).map fun _ => .bl true)] = some (.bl true) := by
    show (bls? _).map _ = _
    rw [bls_map (fun _ => true)]
    simp
  simp only [isNameB, List.map_cons, List.map_nil, Nat.reduceSub, List.replicate_succ, List.replicate_zero, List.cons_append, List.nil_append, exs, ex, ev, evs, see, seeAll, List.getElem?_cons_zero, List.getElem?_cons_succ, isTy, tyOf, List.any_cons, List.any_nil, z1, z2, z3, z4, z5, z6, z8, z10, mkList, z11, beq_self_eq_true, Bool.true_or, Bool.not_true, Bool.false_eq_true, if_false]
end Iv

set_option Elab.async false
set_option linter.all false
set_option maxRecDepth 100000
set_option maxHeartbeats 4000000
namespace Iv
open PySem
variable {T : List Fn} {w n : Nat}
inductive Enc : D → Wr → Prop where
  | nm (x : Str) : Enc (.str x) (.nm x)
  | ofT {x : Str} {d : D} {b : Wr} : Enc d b → Enc (.tup [.str "of", .str x, d]) (.of x b)
  | ofL {x : Str} {d : D} {b : Wr} : Enc d b → Enc (.lst [.str "of", .str x, d]) (.of x b)
  | toT {d e : D} {a b : Wr} : Enc d a → Enc e b → Enc (.tup [.str "to", d, e]) (.to a b)
  | toL {d e : D} {a b : Wr} : Enc d a → Enc e b → Enc (.lst [.str "to", d, e]) (.to a b)
theorem enc_T : ∀ W : Wr, Enc W.enc W
  | .nm x => .nm x
  | .of _ b => .ofT (enc_T b)
  | .to a b => .toT (enc_T a) (enc_T b)
theorem enc_L : ∀ W : Wr, Enc W.encL W
  | .nm x => .nm x
  | .of _ b => .ofL (enc_L b)
  | .to a b => .toL (enc_L a) (enc_L b)
theorem ev_comp3 {F : CF} {i : Nat} {it elt : E} {ρ : Env} {S S1 : Sto} {x a b c a' b' c' : D} (h1 : ev F it ρ S = some (x, S1)) (h2 : items x = some [a, b, c])
    (ha : ev F elt ((ρ.set i none).set i (some a)) S1 = some (a', S1)) (hb : ev F elt ((ρ.set i none).set i (some b)) S1 = some (b', S1)) (hc : ev F elt ((ρ.set i none).set i (some c)) S1 = some (c', S1)) :
    ev F (.comp false (.n i) it elt) ρ S = some (.lst [a', b', c'], S1) := by
  simp only [ev, h1, h2, compRun, setT, wipeT, ha, hb, hc, List.length_nil, List.length_cons, List.length_append, small, mkList, List.nil_append, List.cons_append, Bool.false_eq_true, if_false]
  rfl

theorem see_str (S : Sto) (x : Str) : see S (.str x) = some (.str x) := rfl
theorem see_int (S : Sto) (x : Int) : see S (.int x) = some (.int x) := rfl
theorem see_bl (S : Sto) (x : Bool) : see S (.bl x) = some (.bl x) := rfl
theorem see_tup (S : Sto) (x : List D) : see S (.tup x) = some (.tup x) := rfl
theorem see_lst (S : Sto) (x : List D) : see S (.lst x) = some (.lst x) := rfl
def asTupC (self : Nat) : E := (.comp false (.n 1) (.v 0) (.call self (.cons (.v 1) .nil)))
def asTupB (self : Nat) : Ss := (.cons (.ret (.ite (.isi (.v 0) [.list, .tuple]) (.bi .tuple (.cons (asTupC self) .nil)) (.v 0))) .nil)
theorem asTup_nm {f : Nat} (hT : T[f]? = some ⟨1, 2, asTupB f⟩) (x : Str) (S : Sto) (n : Nat) (hn : 1 ≤ n) : run T w n f [.str x] S = some (.str x, S) := by
  obtain ⟨n, rfl⟩ : ∃ m, n = m + 1 := ⟨n - 1, by omega⟩
  exact run_rts hT rfl rfl rfl
theorem asTup_sq {f : Nat} (hT : T[f]? = some ⟨1, 2, asTupB f⟩) {d a b c a' b' c' : D} (hd : d = .tup [a, b, c] ∨ d = .lst [a, b, c]) {S : Sto} (ha : run T w n f [a] S = some (a', S)) (hb : run T w n f [b] S = some (b', S)) (hc : run T w n f [c] S = some (c', S)) :
    run T w (n + 1) f [d] S = some (.tup [a', b', c'], S) := by
  refine run_rts hT rfl rfl ?_
  have z : ev (run T w n) (asTupC f) [some d, none] S = some (.lst [a', b', c'], S) := by
    refine ev_comp3 (a := a) (b := b) (c := c) (x := d) rfl (by rcases hd with rfl | rfl <;> rfl) ?_ ?_ ?_
    · simp only [ev, evs, List.set_cons_succ, List.set_cons_zero, List.getElem?_cons_zero, List.getElem?_cons_succ, ha]
    · simp only [ev, evs, List.set_cons_succ, List.set_cons_zero, List.getElem?_cons_zero, List.getElem?_cons_succ, hb]
    · simp only [ev, evs, List.set_cons_succ, List.set_cons_zero, List.getElem?_cons_zero, List.getElem?_cons_succ, hc]
  have z2 : biD .tuple [.lst [a', b', c']] = some (.tup [a', b', c']) := rfl
  have z3 : [Ty.list, .tuple].any (isTy d) = true := by rcases hd with rfl | rfl <;> rfl
  have z4 : see S d = some d := by rcases hd with rfl | rfl <;> rfl
  simp only [asTupB, List.map_cons, List.map_nil, Nat.reduceSub, List.replicate_succ, List.replicate_zero, List.cons_append, List.nil_append, exs, ex, ev, evs, see_lst, seeAll, List.getElem?_cons_zero, List.getElem?_cons_succ, z, z2, z3, z4]
theorem asTup_ok {f : Nat} (hT : T[f]? = some ⟨1, 2, asTupB f⟩) {S : Sto} {d : D} {W : Wr} (h : Enc d W) : ∀ n, W.dp + 1 ≤ n → run T w n f [d] S = some (W.enc, S) := by
  induction h with
  | nm x => exact fun n hn => asTup_nm hT x S n (by omega)
  | ofT _ ih | ofL _ ih =>
    intro n hn
    simp only [Wr.dp] at hn
    obtain ⟨n, rfl⟩ : ∃ m, n = m + 1 := ⟨n - 1, by omega⟩
    exact asTup_sq hT (by first | exact .inl rfl | exact .inr rfl) (asTup_nm hT _ S n (by omega)) (asTup_nm hT _ S n (by omega)) (ih n (by omega))
  | toT _ _ ih1 ih2 | toL _ _ ih1 ih2 =>
    intro n hn
    simp only [Wr.dp] at hn
    obtain ⟨n, rfl⟩ : ∃ m, n = m + 1 := ⟨n - 1, by omega⟩
    exact asTup_sq hT (by first | exact .inl rfl | exact .inr rfl) (asTup_nm hT _ S n (by omega)) (ih1 n (by omega)) (ih2 n (by omega))

def isWrB (nm self : Nat) : Ss := (.cons (.ifs (.isi (.v 0) [.str]) (.cons (.ret (.call nm (.cons (.v 0) .nil))) .nil) .nil) (.cons (.ifs (.or (.not (.isi (.v 0) [.list, .tuple])) (.or (.cmp .NotEq (.bi .len (.cons (.v 0) .nil)) (.c (.int 3))) (.cmp .NotIn (.ix (.v 0) (.c (.int 0))) (.tup (.cons (.g "OF" (.str "of")) (.cons (.g "TO" (.str "to")) .nil)))))) (.cons (.ret (.c (.bl false))) .nil) .nil) (.cons (.ifs (.cmp .Eq (.ix (.v 0) (.c (.int 0))) (.g "OF" (.str "of"))) (.cons (.ret (.and (.call nm (.cons (.ix (.v 0) (.c (.int 1))) .nil)) (.call self (.cons (.ix (.v 0) (.c (.int 2))) .nil)))) .nil) .nil) (.cons (.ret (.and (.call self (.cons (.ix (.v 0) (.c (.int 1))) .nil)) (.call self (.cons (.ix (.v 0) (.c (.int 2))) .nil)))) .nil))))
/-- three parts, seen -/
structure Sq3 (d a b c : D) : Prop where
  s : ∀ S, see S d = some d
  str : [Ty.str].any (isTy d) = false
  sq : [Ty.list, .tuple].any (isTy d) = true
  len : biD .len [d] = some (.int 3)
  i0 : ixD d (.int 0) = some a
  i1 : ixD d (.int 1) = some b
  i2 : ixD d (.int 2) = some c
theorem sq3_T (a b c : D) : Sq3 (.tup [a, b, c]) a b c := ⟨fun _ => rfl, rfl, rfl, rfl, rfl, rfl, rfl⟩
theorem sq3_L (a b c : D) : Sq3 (.lst [a, b, c]) a b c := ⟨fun _ => rfl, rfl, rfl, rfl, rfl, rfl, rfl⟩
theorem notin_of : cmpD .NotIn (.str "of") (.tup [.str "of", .str "to"]) = some false := by rw [notin_tup rfl rfl]; simp [inFlat, eqv_str]
theorem notin_to : cmpD .NotIn (.str "to") (.tup [.str "of", .str "to"]) = some false := by rw [notin_tup rfl rfl]; simp [inFlat, eqv_str]
theorem eq_of : cmpD .Eq (.str "of") (.str "of") = some true := congrArg some (decide_eq_true rfl)
theorem eq_to : cmpD .Eq (.str "to") (.str "of") = some false := congrArg some (by decide)
theorem ne_3 : cmpD .NotEq (.int 3) (.int 3) = some false := rfl
theorem sm2 (a b : D) : small [a, b].length = true := rfl
theorem isWr_nm {f g : Nat} (h0 : T[g]? = some ⟨1, 2, isNameB⟩) (hT : T[f]? = some ⟨1, 1, isWrB g f⟩) {x : Str} (hx : nmOk x = true) (S : Sto) (n : Nat) (hn : 2 ≤ n) : run T w n f [.str x] S = some (.bl true, S) := by
  obtain ⟨n, rfl⟩ : ∃ m, n = m + 2 := ⟨n - 2, by omega⟩
  refine run_rts hT rfl rfl ?_
  have z := isName_ok (T := T) (w := w) (n := n) h0 hx S
  simp only [isWrB, List.map_cons, List.map_nil, Nat.sub_self, List.replicate_zero, List.cons_append, List.nil_append, exs, ex, ev, evs, see, List.getElem?_cons_zero, isTy, tyOf, List.any_cons, List.any_nil, beq_self_eq_true, Bool.true_or, z]
theorem isWr_of {f g : Nat} (h0 : T[g]? = some ⟨1, 2, isNameB⟩) (hT : T[f]? = some ⟨1, 1, isWrB g f⟩) {d b : D} {x : Str} (hx : nmOk x = true) (q : Sq3 d (.str "of") (.str x) b) {S : Sto} (hb : run T w (n + 1) f [b] S = some (.bl true, S)) : run T w (n + 2) f [d] S = some (.bl true, S) := by
  refine run_rts hT rfl rfl ?_
  have z := isName_ok (T := T) (w := w) (n := n) h0 hx S
  obtain ⟨q1, q2, q3, q4, q5, q6, q7⟩ := q
  simp only [isWrB, List.map_cons, List.map_nil, Nat.sub_self, List.replicate_zero, List.cons_append, List.nil_append, exs, ex, ev, evs, see_str, see_int, see_tup, q1, q2, q3, q4, q5, q6, q7, ne_3, sm2, notin_of, eq_of, seeAll, List.getElem?_cons_zero, Bool.not_true, if_true, z, hb]
theorem isWr_to {f g : Nat} (h0 : T[g]? = some ⟨1, 2, isNameB⟩) (hT : T[f]? = some ⟨1, 1, isWrB g f⟩) {d a b : D} (q : Sq3 d (.str "to") a b) {S : Sto} (ha : run T w n f [a] S = some (.bl true, S)) (hb : run T w n f [b] S = some (.bl true, S)) : run T w (n + 1) f [d] S = some (.bl true, S) := by
  refine run_rts hT rfl rfl ?_
  obtain ⟨q1, q2, q3, q4, q5, q6, q7⟩ := q
  simp only [isWrB, List.map_cons, List.map_nil, Nat.sub_self, List.replicate_zero, List.cons_append, List.nil_append, exs, ex, ev, evs, see_str, see_int, see_tup, q1, q2, q3, q4, q5, q6, q7, ne_3, sm2, notin_to, eq_to, seeAll, List.getElem?_cons_zero, Bool.not_true, if_true, ha, hb]
theorem isWr_ok {f g : Nat} (h0 : T[g]? = some ⟨1, 2, isNameB⟩) (hT : T[f]? = some ⟨1, 1, isWrB g f⟩) {S : Sto} {d : D} {W : Wr} (h : Enc d W) : (∀ x ∈ W.names, nmOk x = true) → ∀ n, W.dp + 2 ≤ n → run T w n f [d] S = some (.bl true, S) := by
  induction h with
  | nm x => exact fun hW n hn => isWr_nm h0 hT (hW x List.mem_cons_self) S n (by omega)
  | ofT _ ih | ofL _ ih =>
    intro hW n hn
    simp only [Wr.dp] at hn
    obtain ⟨n, rfl⟩ : ∃ m, n = m + 2 := ⟨n - 2, by omega⟩
    exact isWr_of h0 hT (hW _ List.mem_cons_self) (by first | exact sq3_T _ _ _ | exact sq3_L _ _ _) (ih (fun y hy => hW y (List.mem_cons_of_mem _ hy)) (n + 1) (by omega))
  | toT _ _ ih1 ih2 | toL _ _ ih1 ih2 =>
    intro hW n hn
    simp only [Wr.dp] at hn
    obtain ⟨n, rfl⟩ : ∃ m, n = m + 1 := ⟨n - 1, by omega⟩
    exact isWr_to h0 hT (by first | exact sq3_T _ _ _ | exact sq3_L _ _ _) (ih1 (fun y hy => hW y (List.mem_append_left _ hy)) n (by omega)) (ih2 (fun y hy => hW y (List.mem_append_right _ hy)) n (by omega))
def needB (wr tup : Nat) : Ss := (.cons (.ifs (.not (.call wr (.cons (.v 0) .nil))) (.cons .never .nil) .nil) (.cons (.ret (.call tup (.cons (.v 0) .nil))) .nil))
theorem need_ok {f g h k : Nat} (h0 : T[g]? = some ⟨1, 2, isNameB⟩) (h1 : T[h]? = some ⟨1, 1, isWrB g h⟩) (h2 : T[k]? = some ⟨1, 2, asTupB k⟩) (hT : T[f]? = some ⟨2, 2, needB h k⟩) {S : Sto} {d p : D} {W : Wr} (e : Enc d W) (hW : ∀ x ∈ W.names, nmOk x = true) (hn : W.dp + 2 ≤ n) :
    run T w (n + 1) f [d, p] S = some (W.enc, S) := by
  refine run_rts hT rfl rfl ?_
  have z1 := isWr_ok (w := w) h0 h1 (S := S) e hW n hn
  have z2 := asTup_ok (w := w) h2 (S := S) e n (by omega)
  simp only [needB, List.map_cons, List.map_nil, Nat.sub_self, List.replicate_zero, List.cons_append, List.nil_append, exs, ex, ev, evs, List.getElem?_cons_zero, z1, z2, Bool.not_true]

def listedC (self : Nat) : E := (.comp false (.n 1) (.v 0) (.call self (.cons (.v 1) .nil)))
def listedB (self : Nat) : Ss := (.cons (.ret (.ite (.isi (.v 0) [.str]) (.v 0) (listedC self))) .nil)
theorem listed_nm {f : Nat} (hT : T[f]? = some ⟨1, 2, listedB f⟩) (x : Str) (S : Sto) (n : Nat) (hn : 1 ≤ n) : run T w n f [.str x] S = some (.str x, S) := by
  obtain ⟨n, rfl⟩ : ∃ m, n = m + 1 := ⟨n - 1, by omega⟩
  exact run_rts hT rfl rfl rfl
theorem listed_sq {f : Nat} (hT : T[f]? = some ⟨1, 2, listedB f⟩) {a b c a' b' c' : D} {S : Sto} (ha : run T w n f [a] S = some (a', S)) (hb : run T w n f [b] S = some (b', S)) (hc : run T w n f [c] S = some (c', S)) :
    run T w (n + 1) f [.tup [a, b, c]] S = some (.lst [a', b', c'], S) := by
  refine run_rts hT rfl rfl ?_
  have z : ev (run T w n) (listedC f) [some (.tup [a, b, c]), none] S = some (.lst [a', b', c'], S) := by
    refine ev_comp3 (a := a) (b := b) (c := c) (x := .tup [a, b, c]) rfl rfl ?_ ?_ ?_
    · simp only [ev, evs, List.set_cons_succ, List.set_cons_zero, List.getElem?_cons_zero, List.getElem?_cons_succ, ha]
    · simp only [ev, evs, List.set_cons_succ, List.set_cons_zero, List.getElem?_cons_zero, List.getElem?_cons_succ, hb]
    · simp only [ev, evs, List.set_cons_succ, List.set_cons_zero, List.getElem?_cons_zero, List.getElem?_cons_succ, hc]
  have z3 : [Ty.str].any (isTy (.tup [a, b, c])) = false := rfl
  simp only [listedB, List.map_cons, List.map_nil, Nat.reduceSub, List.replicate_succ, List.replicate_zero, List.cons_append, List.nil_append, exs, ex, ev, evs, see, seeAll, List.getElem?_cons_zero, List.getElem?_cons_succ, z, z3]
theorem listed_ok {f : Nat} (hT : T[f]? = some ⟨1, 2, listedB f⟩) {S : Sto} : ∀ (W : Wr) (n : Nat), W.dp + 1 ≤ n → run T w n f [W.enc] S = some (W.encL, S)
  | .nm x, n, hn => listed_nm hT x S n (by omega)
  | .of x b, n, hn => by
    simp only [Wr.dp] at hn
    obtain ⟨n, rfl⟩ : ∃ m, n = m + 1 := ⟨n - 1, by omega⟩
    exact listed_sq hT (listed_nm hT _ S n (by omega)) (listed_nm hT _ S n (by omega)) (listed_ok hT b n (by omega))
  | .to a b, n, hn => by
    simp only [Wr.dp] at hn
    obtain ⟨n, rfl⟩ : ∃ m, n = m + 1 := ⟨n - 1, by omega⟩
    exact listed_sq hT (listed_nm hT _ S n (by omega)) (listed_ok hT a n (by omega)) (listed_ok hT b n (by omega))
def shelfE (k : Int) : E := (.comp false (.n 1) (.sl (.v 0) (.c .non) (.c (.int k))) (.bi .int (.cons (.v 1) .nil)))
def shelfB (k : Int) : Ss := (.cons (.ret (.new (.cons (shelfE k) (.cons (.c (.int 0)) (.cons (.c (.int 0)) .nil))))) .nil)
theorem shelf_ok {f k : Nat} (hT : T[f]? = some ⟨1, 2, shelfB k⟩) (hk : k ≤ 1000) (ns : List Int) : run T w (n + 1) f [.lst (ns.map D.int)] [] = some (.ref 0, [some (shelf (ns.take k) 0 0)]) := by
  have z1 : slD (.lst (ns.map D.int)) none (some (k : Int)) = some (.lst ((ns.take k).map D.int)) := by
    show some (D.lst (cutD _ _ _)) = _
    unfold cutD
    rw [HT.sIx_none, HT.sIx_nat, List.drop_zero, Nat.sub_zero, List.map_take]
    by_cases h : k ≤ ns.length
    · rw [Nat.min_eq_left (by simpa using h)]
    · rw [Nat.min_eq_right (by simp; omega), List.take_of_length_le (by simp), List.take_of_length_le (by simp; omega)]
  have z2 : ev (run T w n) (shelfE k) [some (.lst (ns.map D.int)), none] [] = some (.lst (((ns.take k).map D.int).map id), []) :=
    ev_comp (g := id) (x := .lst ((ns.take k).map D.int)) (by simp only [ev, List.getElem?_cons_zero, see, part?, z1, isNonE, isIntD, Bool.true_or, Bool.or_true, Bool.and_self, if_true]) rfl (fun d hd => by
      obtain ⟨i, _, rfl⟩ := List.mem_map.mp hd
      exact ⟨_, rfl, rfl⟩) (by simp; omega)
  rw [List.map_id] at z2
  have z3 : D.pures [.lst ((ns.take k).map D.int), .int 0, .int 0] = true := by simp only [D.pures, D.pure, pures_ints, Bool.and_self]
  rw [run_rt hT rfl (d := .ref 0) (S1 := [some (shelf (ns.take k) 0 0)])]
  · rfl
  · simp only [shelfB, List.map_cons, List.map_nil, Nat.reduceSub, List.replicate_succ, List.replicate_zero, List.cons_append, List.nil_append, exs, ex, ev, evs, z2, mkList, z3, if_true, List.length_nil, List.length_cons, small]
    rfl
end Iv

set_option Elab.async false
set_option linter.all false
set_option maxRecDepth 100000
set_option maxHeartbeats 4000000
namespace Lk52
open PySem PySem.Spec PyProof.Rows L2 Iv
def top (i : Nat) : Stmt := PySem.Challenge.pw_timesagain_k52_one_number_told_by_two_as.main.body.getD i (.Pass ⟨0, 0, 0, 0⟩)
def cst (i j : Nat) : Stmt := match top i with
  | .ClassDef _ _ _ b _ _ _ _ _ _ _ => b.getD j (.Pass ⟨0, 0, 0, 0⟩)
  | s => s
def b__wall : Ss := (.cons (.wh (.c (.bl true)) (.cons .pass .nil)) .nil)
def d__wall : DefI := ⟨"_wall", none, "_wall", ["k"], ["k"], ⟨1, 1, b__wall⟩, defArgs (top 0), defBody (top 0), defScope (top 0)⟩
def b_is_integer : Ss := (.cons (.ret (.and (.isi (.v 0) [.int]) (.not (.isi (.v 0) [.bool])))) .nil)
def d_is_integer : DefI := ⟨"is_integer", none, "is_integer", ["value"], ["value"], ⟨1, 1, b_is_integer⟩, defArgs (top 12), defBody (top 12), defScope (top 12)⟩
def b_is_within : Ss := (.cons (.ifs (.or (.not (.call 1 (.cons (.v 0) .nil))) (.and (.cmp .IsNot (.v 1) (.c .non)) (.cmp .Lt (.v 0) (.v 1)))) (.cons (.ret (.c (.bl false))) .nil) .nil) (.cons (.ret (.or (.cmp .Is (.v 2) (.c .non)) (.cmp .LtE (.v 0) (.v 2)))) .nil))
def d_is_within : DefI := ⟨"is_within", none, "is_within", ["value", "least", "most"], ["value", "least", "most"], ⟨3, 3, b_is_within⟩, defArgs (top 13), defBody (top 13), defScope (top 13)⟩
def b_need_number : Ss := (.cons (.ifs (.not (.call 2 (.cons (.v 0) (.cons (.v 2) (.cons (.v 3) .nil))))) (.cons .never .nil) .nil) .nil)
def d_need_number : DefI := ⟨"need_number", none, "need_number", ["value", "part", "least", "most"], ["value", "part", "least", "most"], ⟨4, 4, b_need_number⟩, defArgs (top 14), defBody (top 14), defScope (top 14)⟩
def b_need_many : Ss := (.cons (.ex (.call 3 (.cons (.v 0) (.cons (.c (.str "many")) (.cons (.c (.int 0)) (.cons (.g "MOST_MANY_checks" (.int 3)) .nil)))))) .nil)
def d_need_many : DefI := ⟨"need_many", none, "need_many", ["value"], ["value"], ⟨1, 1, b_need_many⟩, defArgs (top 15), defBody (top 15), defScope (top 15)⟩
def b_are_numbers : Ss := (.cons (.ret (.and (.isi (.v 0) [.list, .tuple]) (.bi .all (.cons (.comp false (.n 1) (.v 0) (.call 2 (.cons (.v 1) (.cons (.c (.int 0)) (.cons (.c .non) .nil))))) .nil)))) .nil)
def d_are_numbers : DefI := ⟨"are_numbers", none, "are_numbers", ["value"], ["value", "part"], ⟨1, 2, b_are_numbers⟩, defArgs (top 16), defBody (top 16), defScope (top 16)⟩
def b_need_numbers : Ss := (.cons (.ifs (.or (.not (.call 5 (.cons (.v 0) .nil))) (.cmp .NotEq (.bi .len (.cons (.v 0) .nil)) (.v 2))) (.cons .never .nil) .nil) .nil)
def d_need_numbers : DefI := ⟨"need_numbers", none, "need_numbers", ["value", "part", "many"], ["value", "part", "many"], ⟨3, 3, b_need_numbers⟩, defArgs (top 17), defBody (top 17), defScope (top 17)⟩
def b_fixed : Ss := (.cons (.ifs (.not (.isi (.v 0) [.list, .tuple])) (.cons (.ret (.v 0)) .nil) .nil) (.cons (.ret (.bi .tuple (.cons (.comp false (.n 1) (.v 0) (.call 7 (.cons (.v 1) .nil))) .nil))) .nil))
def d_fixed : DefI := ⟨"fixed", none, "fixed", ["value"], ["value", "part"], ⟨1, 2, b_fixed⟩, defArgs (top 19), defBody (top 19), defScope (top 19)⟩
def b_is_powers : Ss := (.cons (.ifs (.or (.not (.isi (.v 1) [.list, .tuple])) (.cmp .NotEq (.bi .len (.cons (.v 1) .nil)) (.bi .len (.cons (.v 0) .nil)))) (.cons (.ret (.c (.bl false))) .nil) .nil) (.cons (.asg (.n 2) (.comp false (.n 3) (.v 0) (.ite (.cmp .Eq (.v 3) (.c (.int 1))) (.g "MOST_POWER" (.int 60)) (.c (.int 0))))) (.cons (.ret (.bi .all (.cons (.comp false (.t [4, 5]) (.zipG (.v 2) (.v 1)) (.call 2 (.cons (.v 5) (.cons (.c (.int 0)) (.cons (.v 4) .nil))))) .nil))) .nil)))
def d_is_powers : DefI := ⟨"is_powers", none, "is_powers", ["choice", "value"], ["choice", "value", "tops", "sign", "top", "power"], ⟨2, 6, b_is_powers⟩, defArgs (top 25), defBody (top 25), defScope (top 25)⟩
def b_is_term : Ss := (.cons (.ifs (.or (.not (.isi (.v 1) [.list, .tuple])) (.cmp .NotEq (.bi .len (.cons (.v 1) .nil)) (.c (.int 2)))) (.cons (.ret (.c (.bl false))) .nil) .nil) (.cons (.ret (.and (.call 8 (.cons (.v 0) (.cons (.ix (.v 1) (.c (.int 0))) .nil))) (.call 2 (.cons (.ix (.v 1) (.c (.int 1))) (.cons (.c (.int 1)) (.cons (.c .non) .nil)))))) .nil))
def d_is_term : DefI := ⟨"is_term", none, "is_term", ["choice", "value"], ["choice", "value"], ⟨2, 2, b_is_term⟩, defArgs (top 26), defBody (top 26), defScope (top 26)⟩
def b_is_polynomial : Ss := (.cons (.ifs (.or (.not (.isi (.v 2) [.list, .tuple])) (.cmp .NotEq (.bi .len (.cons (.v 1) .nil)) (.v 0))) (.cons (.ret (.c (.bl false))) .nil) .nil) (.cons (.ifs (.not (.bi .all (.cons (.comp false (.n 4) (.v 2) (.call 9 (.cons (.v 1) (.cons (.v 4) .nil)))) .nil))) (.cons (.ret (.c (.bl false))) .nil) .nil) (.cons (.asg (.n 3) (.comp false (.n 4) (.v 2) (.bi .tuple (.cons (.ix (.v 4) (.c (.int 0))) .nil)))) (.cons (.ret (.bi .all (.cons (.comp false (.t [5, 6]) (.zipG (.v 3) (.sl (.v 3) (.c (.int 1)) (.c .non))) (.cmp .Lt (.v 5) (.v 6))) .nil))) .nil))))
def d_is_polynomial : DefI := ⟨"is_polynomial", none, "is_polynomial", ["many", "choice", "value"], ["many", "choice", "value", "powers", "term", "one", "other"], ⟨3, 7, b_is_polynomial⟩, defArgs (top 27), defBody (top 27), defScope (top 27)⟩
def b_choices : Ss := (.cons (.ex (.call 4 (.cons (.v 0) .nil))) (.cons (.asg (.n 1) (.lst (.cons (.tup .nil) .nil))) (.cons (.for (.n 2) (.rng (.c (.int 0)) (.v 0)) (.cons (.asg (.n 1) (.comp2 false (.n 3) (.v 1) (.n 4) (.tup (.cons (.c (.int 0)) (.cons (.c (.int 1)) .nil))) (.tup (.star (.v 3) (.cons (.v 4) .nil))))) .nil)) (.cons (.ret (.bi .tuple (.cons (.v 1) .nil))) .nil))))
def d_choices : DefI := ⟨"choices", none, "choices", ["many"], ["many", "found", "_", "signs", "sign"], ⟨1, 5, b_choices⟩, defArgs (top 28), defBody (top 28), defScope (top 28)⟩
def b_choice_of : Ss := (.cons (.ifs (.or (.not (.call 5 (.cons (.v 0) .nil))) (.cmp .Gt (.bi .len (.cons (.v 0) .nil)) (.g "MOST_MANY_polynomials" (.int 3)))) (.cons .never .nil) .nil) (.cons (.ret (.bi .tuple (.cons (.comp false (.n 1) (.v 0) (.bi .int (.cons (.cmp .Gt (.v 1) (.c (.int 0))) .nil))) .nil))) .nil))
def d_choice_of : DefI := ⟨"choice_of", none, "choice_of", ["numbers"], ["numbers", "number"], ⟨1, 2, b_choice_of⟩, defArgs (top 29), defBody (top 29), defScope (top 29)⟩
def b_choice_number : Ss := (.cons (.asg (.n 1) (.c (.int 0))) (.cons (.for (.n 2) (.v 0) (.cons (.asg (.n 1) (.op .Add (.op .Mult (.c (.int 2)) (.v 1)) (.v 2))) .nil)) (.cons (.ret (.v 1)) .nil)))
def d_choice_number : DefI := ⟨"choice_number", none, "choice_number", ["choice"], ["choice", "found", "sign"], ⟨1, 3, b_choice_number⟩, defArgs (top 30), defBody (top 30), defScope (top 30)⟩
def b_as_polynomial : Ss := (.cons (.ret (.bi .tuple (.cons (.comp false (.t [1, 2]) (.v 0) (.tup (.cons (.bi .tuple (.cons (.v 1) .nil)) (.cons (.v 2) .nil)))) .nil))) .nil)
def d_as_polynomial : DefI := ⟨"as_polynomial", none, "as_polynomial", ["value"], ["value", "powers", "share"], ⟨1, 3, b_as_polynomial⟩, defArgs (top 31), defBody (top 31), defScope (top 31)⟩
def b_gathered : Ss := (.cons (.asg (.n 1) (.dct [])) (.cons (.for (.t [2, 3]) (.v 0) (.cons (.put (.v 1) (.v 2) (.op .Add (.neg (.c .non)) (.v 3))) .nil)) (.cons (.ret (.bi .tuple (.cons (.comp false (.n 2) (.bi .sorted (.cons (.v 1) .nil)) (.tup (.cons (.v 2) (.cons (.ix (.v 1) (.v 2)) .nil)))) .nil))) .nil)))
def d_gathered : DefI := ⟨"gathered", none, "gathered", ["terms"], ["terms", "found", "powers", "share"], ⟨1, 4, b_gathered⟩, defArgs (top 32), defBody (top 32), defScope (top 32)⟩
def b_multiplied : Ss := (.cons (.asg (.n 2) (.new .nil)) (.cons (.for (.t [3, 4]) (.v 0) (.cons (.ex (.meth .extend (.v 2) (.cons (.comp false (.t [5, 6]) (.v 1) (.tup (.cons (.bi .tuple (.cons (.comp false (.t [7, 8]) (.zipG (.v 3) (.v 5)) (.op .Add (.v 7) (.v 8))) .nil)) (.cons (.op .Mult (.v 4) (.v 6)) .nil)))) .nil))) .nil)) (.cons (.ret (.call 15 (.cons (.v 2) .nil))) .nil)))
def d_multiplied : DefI := ⟨"multiplied", none, "multiplied", ["one", "other"], ["one", "other", "found", "powers", "share", "more", "by", "mine", "its"], ⟨2, 9, b_multiplied⟩, defArgs (top 33), defBody (top 33), defScope (top 33)⟩
def b_so_often : Ss := (.cons (.asg (.n 2) (.c (.int 1))) (.cons (.for (.n 3) (.rng (.c (.int 0)) (.v 1)) (.cons (.asg (.n 2) (.op .Mult (.v 2) (.v 0))) .nil)) (.cons (.ret (.v 2)) .nil)))
def d_so_often : DefI := ⟨"so_often", none, "so_often", ["base", "power"], ["base", "power", "found", "_"], ⟨2, 4, b_so_often⟩, defArgs (top 34), defBody (top 34), defScope (top 34)⟩
def b_worth_of : Ss := (.cons (.asg (.n 2) (.c (.int 0))) (.cons (.for (.t [3, 4]) (.v 0) (.cons (.asg (.n 5) (.v 4)) (.cons (.for (.t [6, 7]) (.zipG (.v 1) (.v 3)) (.cons (.asg (.n 5) (.op .Mult (.v 5) (.call 17 (.cons (.v 6) (.cons (.v 7) .nil))))) .nil)) (.cons (.asg (.n 2) (.op .Add (.v 2) (.v 5))) .nil)))) (.cons (.ret (.v 2)) .nil)))
def d_worth_of : DefI := ⟨"worth_of", none, "worth_of", ["polynomial", "numbers"], ["polynomial", "numbers", "total", "powers", "share", "worth", "number", "power"], ⟨2, 8, b_worth_of⟩, defArgs (top 35), defBody (top 35), defScope (top 35)⟩
def b_most_power : Ss := (.cons (.ret (.neg (.c .non))) .nil)
def d_most_power : DefI := ⟨"most_power", none, "most_power", ["polynomial", "place"], ["polynomial", "place", "powers", "share"], ⟨2, 4, b_most_power⟩, defArgs (top 36), defBody (top 36), defScope (top 36)⟩
def b_number_of_item : Ss := (.cons (.ifs (.or (.cmp .Is (.v 0) (.c .non)) (.or (.not (.chain .LtE .LtE (.c (.int 1)) (.bi .len (.cons (.v 0) .nil)) (.g "MOST_DIGITS" (.int 60)))) (.not (.bi .all (.cons (.comp false (.n 1) (.v 0) (.cmp .In (.v 1) (.g "DIGITS" (.str "0123456789")))) .nil))))) (.cons (.ret (.c .non)) .nil) .nil) (.cons (.ret (.ite (.and (.cmp .Eq (.ix (.v 0) (.c (.int 0))) (.c (.str "0"))) (.cmp .NotEq (.v 0) (.c (.str "0")))) (.c .non) (.bi .int (.cons (.v 0) .nil)))) .nil))
def d_number_of_item : DefI := ⟨"number_of_item", none, "number_of_item", ["item"], ["item", "sign"], ⟨1, 2, b_number_of_item⟩, defArgs (top 39), defBody (top 39), defScope (top 39)⟩
def b_are_rows : Ss := (.cons (.asg (.n 2) (.call 11 (.cons (.v 0) .nil))) (.cons (.ifs (.or (.not (.isi (.v 1) [.list, .tuple])) (.cmp .NotEq (.bi .len (.cons (.v 1) .nil)) (.bi .len (.cons (.v 2) .nil)))) (.cons (.ret (.c (.bl false))) .nil) .nil) (.cons (.ret (.bi .all (.cons (.comp false (.t [3, 4]) (.zipG (.v 2) (.v 1)) (.call 10 (.cons (.v 0) (.cons (.v 3) (.cons (.v 4) .nil))))) .nil))) .nil)))
def d_are_rows : DefI := ⟨"are_rows", none, "are_rows", ["many", "value"], ["many", "value", "told", "choice", "row"], ⟨2, 5, b_are_rows⟩, defArgs (top 47), defBody (top 47), defScope (top 47)⟩
def b_term_text : Ss := (.cons (.ret (.op .Add (.op .Add (.bi .str (.cons (.v 1) .nil)) (.c (.str ":"))) (.meth .join (.c (.str ".")) (.cons (.comp false (.n 2) (.v 0) (.bi .str (.cons (.v 2) .nil))) .nil)))) .nil)
def d_term_text : DefI := ⟨"term_text", none, "term_text", ["powers", "share"], ["powers", "share", "power"], ⟨2, 3, b_term_text⟩, defArgs (top 48), defBody (top 48), defScope (top 48)⟩
def b_row_text : Ss := (.cons (.asg (.n 1) (.comp false (.t [2, 3]) (.v 0) (.call 22 (.cons (.v 2) (.cons (.v 3) .nil))))) (.cons (.ret (.meth .join (.c (.str " ")) (.cons (.ite (.cmp .NotEq (.v 1) (.lst .nil)) (.v 1) (.lst (.cons (.g "NONE" (.str "0")) .nil))) .nil))) .nil))
def d_row_text : DefI := ⟨"row_text", none, "row_text", ["row"], ["row", "items", "powers", "share"], ⟨1, 4, b_row_text⟩, defArgs (top 49), defBody (top 49), defScope (top 49)⟩
def b_term_of_item : Ss := (.cons (.ifs (.or (.cmp .Is (.v 0) (.c .non)) (.cmp .NotEq (.neg (.c .non)) (.c (.int 1)))) (.cons (.ret (.c .non)) .nil) .nil) (.cons (.asg (.t [2, 3]) (.meth .split (.v 0) (.cons (.g "COLON" (.str ":")) .nil))) (.cons (.asg (.n 4) (.ite (.cmp .NotEq (.v 3) (.c (.str ""))) (.meth .split (.v 3) (.cons (.g "DOT" (.str ".")) .nil)) (.lst .nil))) (.cons (.asg (.n 5) (.tup (.cons (.bi .tuple (.cons (.comp false (.n 6) (.v 4) (.call 20 (.cons (.v 6) .nil))) .nil)) (.cons (.call 20 (.cons (.v 2) .nil)) .nil)))) (.cons (.ret (.ite (.call 9 (.cons (.v 1) (.cons (.v 5) .nil))) (.v 5) (.c .non))) .nil)))))
def d_term_of_item : DefI := ⟨"term_of_item", none, "term_of_item", ["item", "choice"], ["item", "choice", "share", "told", "parts", "term", "part"], ⟨2, 7, b_term_of_item⟩, defArgs (top 50), defBody (top 50), defScope (top 50)⟩
def b_take_term : Ss := (.cons (.asg (.n 3) (.call 24 (.cons (.neg (.c .non)) (.cons (.v 1) .nil)))) (.cons (.ifs (.or (.cmp .Is (.v 3) (.c .non)) (.and (.cmp .NotEq (.v 2) (.lst .nil)) (.cmp .LtE (.ix (.v 3) (.c (.int 0))) (.ix (.ix (.v 2) (.neg (.c (.int 1)))) (.c (.int 0)))))) (.cons (.ex (.neg (.c .non))) .nil) .nil) (.cons (.ex (.neg (.c .non))) (.cons (.ex (.meth .append (.v 2) (.cons (.v 3) .nil))) .nil))))
def d_take_term : DefI := ⟨"take_term", none, "take_term", ["scan", "choice", "ahead"], ["scan", "choice", "ahead", "term"], ⟨3, 4, b_take_term⟩, defArgs (top 51), defBody (top 51), defScope (top 51)⟩
def b_take_row : Ss := (.cons (.asg (.n 2) (.new .nil)) (.cons (.ifs (.cmp .Eq (.neg (.c .non)) (.g "NONE" (.str "0"))) (.cons (.ex (.neg (.c .non))) (.cons (.ret (.frz 2)) .nil)) .nil) (.cons (.ex (.call 25 (.cons (.v 0) (.cons (.v 1) (.cons (.v 2) .nil))))) (.cons (.wh (.and (.not (.neg (.c .non))) (.cmp .NotEq (.neg (.c .non)) (.g "NEXT" (.str "/")))) (.cons (.ex (.call 25 (.cons (.v 0) (.cons (.v 1) (.cons (.v 2) .nil))))) .nil)) (.cons (.ret (.frz 2)) .nil)))))
def d_take_row : DefI := ⟨"take_row", none, "take_row", ["scan", "choice"], ["scan", "choice", "found"], ⟨2, 3, b_take_row⟩, defArgs (top 52), defBody (top 52), defScope (top 52)⟩
def b_take_many : Ss := (.cons (.asg (.n 1) (.call 20 (.cons (.neg (.c .non)) .nil))) (.cons (.ifs (.not (.call 2 (.cons (.v 1) (.cons (.c (.int 0)) (.cons (.c (.int 3)) .nil))))) (.cons (.ex (.neg (.c .non))) .nil) .nil) (.cons (.ex (.neg (.c .non))) (.cons (.ifs (.cmp .NotEq (.neg (.c .non)) (.g "COLON" (.str ":"))) (.cons (.ex (.neg (.c .non))) .nil) .nil) (.cons (.ex (.neg (.c .non))) (.cons (.ret (.v 1)) .nil))))))
def d_take_many : DefI := ⟨"take_many", none, "take_many", ["scan"], ["scan", "many"], ⟨1, 2, b_take_many⟩, defArgs (top 53), defBody (top 53), defScope (top 53)⟩
def b_need_few : Ss := (.cons (.ifs (.cmp .Gt (.neg (.c .non)) (.g "MOST_PRODUCTS" (.int 20000))) (.cons .never .nil) .nil) (.cons (.ifs (.cmp .Gt (.neg (.c .non)) (.g "MOST_POWER" (.int 60))) (.cons .never .nil) .nil) .nil))
def d_need_few : DefI := ⟨"need_few", none, "need_few", ["products", "powers"], ["products", "powers"], ⟨2, 2, b_need_few⟩, defArgs (top 54), defBody (top 54), defScope (top 54)⟩
def b_Table_init : Ss := (.cons (.ex (.call 4 (.cons (.v 1) .nil))) (.cons (.ifs (.not (.call 21 (.cons (.v 1) (.cons (.v 2) .nil)))) (.cons .never .nil) .nil) (.cons (.setf "Table" (.v 0) "many" (.v 1)) (.cons (.setf "Table" (.v 0) "rows" (.bi .tuple (.cons (.comp false (.n 3) (.v 2) (.call 14 (.cons (.v 3) .nil))) .nil))) .nil))))
def d_Table_init : DefI := ⟨"__init__", some "Table", "Table.__init__", ["self", "many", "rows"], ["self", "many", "rows", "row"], ⟨3, 4, b_Table_init⟩, defArgs (cst 55 0), defBody (cst 55 0), defScope (cst 55 0)⟩
def b_Table_at : Ss := (.cons (.ex (.call 6 (.cons (.v 1) (.cons (.c (.str "numbers")) (.cons (.fld "Table" (.v 0) "many") .nil))))) (.cons (.ret (.call 18 (.cons (.ix (.fld "Table" (.v 0) "rows") (.call 13 (.cons (.call 12 (.cons (.v 1) .nil)) .nil))) (.cons (.v 1) .nil)))) .nil))
def d_Table_at : DefI := ⟨"at", some "Table", "Table.at", ["self", "numbers"], ["self", "numbers"], ⟨2, 2, b_Table_at⟩, defArgs (cst 55 2), defBody (cst 55 2), defScope (cst 55 2)⟩
def b_Table_need_like : Ss := (.cons (.ex (.call 37 (.cons (.v 1) (.cons (.c (.str "other")) .nil)))) (.cons (.ifs (.cmp .NotEq (.neg (.c .non)) (.fld "Table" (.v 0) "many")) (.cons .never .nil) .nil) .nil))
def d_Table_need_like : DefI := ⟨"need_like", some "Table", "Table.need_like", ["self", "other"], ["self", "other"], ⟨2, 2, b_Table_need_like⟩, defArgs (cst 55 3), defBody (cst 55 3), defScope (cst 55 3)⟩
def b_Table_plus : Ss := (.cons (.ex (.call 0 (.cons (.c (.int 1)) .nil))) .nil)
def d_Table_plus : DefI := ⟨"plus", some "Table", "Table.plus", ["self", "other"], ["self", "other"], ⟨2, 2, b_Table_plus⟩, defArgs (cst 55 4), defBody (cst 55 4), defScope (cst 55 4)⟩
def b_Table_times : Ss := (.cons (.ex (.mcall "Table" "need_like" 31 (.v 0) (.cons (.v 1) .nil))) (.cons (.asg (.n 2) (.bi .list (.cons (.neg (.c .non)) .nil))) (.cons (.asg (.n 3) (.compI false (.t [5, 6]) (.v 2) (.and (.cmp .NotEq (.v 5) (.tup .nil)) (.cmp .NotEq (.v 6) (.tup .nil))) (.tup (.cons (.v 5) (.cons (.v 6) .nil))))) (.cons (.asg (.n 4) (.comp2 false (.t [5, 6]) (.v 3) (.n 7) (.rng (.c (.int 0)) (.fld "Table" (.v 0) "many")) (.op .Add (.call 19 (.cons (.v 5) (.cons (.v 7) .nil))) (.call 19 (.cons (.v 6) (.cons (.v 7) .nil)))))) (.cons (.ex (.call 28 (.cons (.comp false (.t [5, 6]) (.v 3) (.op .Mult (.bi .len (.cons (.v 5) .nil)) (.bi .len (.cons (.v 6) .nil)))) (.cons (.v 4) .nil)))) (.cons (.ret (.mko "Table" 91 (.cons (.fld "Table" (.v 0) "many") (.cons (.comp false (.t [5, 6]) (.v 2) (.call 16 (.cons (.v 5) (.cons (.v 6) .nil)))) .nil)))) .nil))))))
def d_Table_times : DefI := ⟨"times", some "Table", "Table.times", ["self", "other"], ["self", "other", "pairs", "both", "powers", "one", "its", "place"], ⟨2, 8, b_Table_times⟩, defArgs (cst 55 5), defBody (cst 55 5), defScope (cst 55 5)⟩
def b_Table_put_in : Ss := (.cons (.ex (.call 0 (.cons (.c (.int 2)) .nil))) .nil)
def d_Table_put_in : DefI := ⟨"put_in", some "Table", "Table.put_in", ["self", "tables", "many"], ["self", "tables", "many"], ⟨3, 3, b_Table_put_in⟩, defArgs (cst 55 6), defBody (cst 55 6), defScope (cst 55 6)⟩
def b_Table_eq : Ss := (.cons (.ret (.and (.isC (.v 1) "Table" ["Table"] []) (.and (.cmp .Eq (.fld "Table" (.v 0) "many") (.fld "Table" (.v 1) "many")) (.cmp .Eq (.fld "Table" (.v 0) "rows") (.fld "Table" (.v 1) "rows"))))) .nil)
def d_Table_eq : DefI := ⟨"__eq__", some "Table", "Table.__eq__", ["self", "other"], ["self", "other"], ⟨2, 2, b_Table_eq⟩, defArgs (cst 55 7), defBody (cst 55 7), defScope (cst 55 7)⟩
def b_Table_str : Ss := (.cons (.asg (.n 1) (.meth .join (.c (.str " / ")) (.cons (.comp false (.n 2) (.fld "Table" (.v 0) "rows") (.call 23 (.cons (.v 2) .nil))) .nil))) (.cons (.ret (.js (.cons (.fmt (.fld "Table" (.v 0) "many")) (.cons (.c (.str " ")) (.cons (.fmt (.g "COLON" (.str ":"))) (.cons (.c (.str " ")) (.cons (.fmt (.v 1)) .nil))))))) .nil))
def d_Table_str : DefI := ⟨"__str__", some "Table", "Table.__str__", ["self"], ["self", "whole", "row"], ⟨1, 3, b_Table_str⟩, defArgs (cst 55 8), defBody (cst 55 8), defScope (cst 55 8)⟩
def b_need_table : Ss := (.cons (.ifs (.not (.isC (.v 0) "Table" ["Table"] [])) (.cons .never .nil) .nil) .nil)
def d_need_table : DefI := ⟨"need_table", none, "need_table", ["value", "part"], ["value", "part"], ⟨2, 2, b_need_table⟩, defArgs (top 56), defBody (top 56), defScope (top 56)⟩
def b_is_answer : Ss := (.cons (.ifs (.or (.not (.isi (.v 0) [.list, .tuple])) (.cmp .NotEq (.bi .len (.cons (.v 0) .nil)) (.c (.int 2)))) (.cons (.ret (.c (.bl false))) .nil) .nil) (.cons (.ret (.and (.call 5 (.cons (.ix (.v 0) (.c (.int 0))) .nil)) (.and (.cmp .Eq (.bi .len (.cons (.ix (.v 0) (.c (.int 0))) .nil)) (.v 1)) (.call 2 (.cons (.ix (.v 0) (.c (.int 1))) (.cons (.c (.int 0)) (.cons (.c .non) .nil))))))) .nil))
def d_is_answer : DefI := ⟨"is_answer", none, "is_answer", ["value", "many"], ["value", "many"], ⟨2, 2, b_is_answer⟩, defArgs (top 61), defBody (top 61), defScope (top 61)⟩
def b_are_answers : Ss := (.cons (.ret (.and (.isi (.v 0) [.list, .tuple]) (.bi .all (.cons (.compP false (.n 2) (.v 0) (.call 38 (.cons (.v 2) (.cons (.v 1) .nil)))) .nil)))) .nil)
def d_are_answers : DefI := ⟨"are_answers", none, "are_answers", ["value", "many"], ["value", "many", "each"], ⟨2, 3, b_are_answers⟩, defArgs (top 62), defBody (top 62), defScope (top 62)⟩
def b_raised : Ss := (.cons (.asg (.n 2) (.c (.int 1))) (.cons (.for (.n 3) (.rng (.c (.int 0)) (.v 1)) (.cons (.asg (.n 2) (.op .Mult (.v 2) (.v 0))) .nil)) (.cons (.ret (.v 2)) .nil)))
def d_raised : DefI := ⟨"raised", none, "raised", ["number", "times"], ["number", "times", "found", "_"], ⟨2, 4, b_raised⟩, defArgs (top 63), defBody (top 63), defScope (top 63)⟩
def b_steps_of_places : Ss := (.cons (.ret (.bits (.v 0))) .nil)
def d_steps_of_places : DefI := ⟨"steps_of_places", none, "steps_of_places", ["value"], ["value"], ⟨1, 1, b_steps_of_places⟩, defArgs (top 64), defBody (top 64), defScope (top 64)⟩
def b_spread : Ss := (.cons (.par [2, 3] (.cons (.new .nil) (.cons (.c (.int 0)) .nil))) (.cons (.for (.n 4) (.v 0) (.cons (.ex (.meth .append (.v 2) (.cons (.ite (.cmp .Eq (.v 4) (.c (.int 1))) (.ix (.v 1) (.v 3)) (.c (.int 0))) .nil))) (.cons (.asg (.n 3) (.op .Add (.v 3) (.v 4))) .nil))) (.cons (.ret (.bi .tuple (.cons (.v 2) .nil))) .nil)))
def d_spread : DefI := ⟨"spread", none, "spread", ["choice", "wanted"], ["choice", "wanted", "found", "spot", "sign"], ⟨2, 5, b_spread⟩, defArgs (top 65), defBody (top 65), defScope (top 65)⟩
def b_second_numbers : Ss := (.cons (.asg (.n 2) (.new (.cons (.op .Add (.v 1) (.c (.int 1))) .nil))) (.cons (.for (.n 3) (.rng (.c (.int 1)) (.bi .sum (.cons (.v 0) .nil))) (.cons (.ex (.meth .append (.v 2) (.cons (.call 40 (.cons (.ix (.v 2) (.neg (.c (.int 1)))) (.cons (.call 41 (.cons (.v 1) .nil)) .nil))) .nil))) .nil)) (.cons (.ret (.call 42 (.cons (.v 0) (.cons (.v 2) .nil)))) .nil)))
def d_second_numbers : DefI := ⟨"second_numbers", none, "second_numbers", ["choice", "value"], ["choice", "value", "wanted", "_"], ⟨2, 4, b_second_numbers⟩, defArgs (top 66), defBody (top 66), defScope (top 66)⟩
def b_next_of : Ss := (.cons (.ifs (.cmp .Eq (.v 1) (.lst .nil)) (.cons (.ret (.call 42 (.cons (.v 0) (.cons (.op .Mult (.lst (.cons (.g "FIRST" (.int 2)) .nil)) (.bi .len (.cons (.v 0) .nil))) .nil)))) .nil) .nil) (.cons (.ifs (.or (.cmp .Eq (.bi .sum (.cons (.v 0) .nil)) (.c (.int 0))) (.or (.cmp .Eq (.bi .len (.cons (.v 1) .nil)) (.c (.int 2))) (.cmp .LtE (.ix (.v 1) (.c (.int 0))) (.c (.int 1))))) (.cons (.ret (.c .non)) .nil) .nil) (.cons (.ret (.call 43 (.cons (.v 0) (.cons (.ix (.v 1) (.c (.int 0))) .nil)))) .nil)))
def d_next_of : DefI := ⟨"next_of", none, "next_of", ["choice", "values"], ["choice", "values"], ⟨2, 2, b_next_of⟩, defArgs (top 67), defBody (top 67), defScope (top 67)⟩
def b_need_small : Ss := (.cons (.asg (.n 2) (.ix (.g "MOST_VALUES" (.tup [.non, (.int 1000000000000000000), (.int 10000), (.int 200)])) (.v 1))) (.cons (.ifs (.and (.cmp .IsNot (.v 2) (.c .non)) (.cmp .Gt (.v 0) (.v 2))) (.cons .never .nil) .nil) .nil))
def d_need_small : DefI := ⟨"need_small", none, "need_small", ["value", "above"], ["value", "above", "most"], ⟨2, 3, b_need_small⟩, defArgs (top 68), defBody (top 68), defScope (top 68)⟩
def b_sorted_out : Ss := (.cons (.par [2, 3] (.cons (.call 11 (.cons (.v 0) .nil)) (.cons (.new (.cons (.new .nil) .nil)) .nil))) (.cons (.asg (.n 4) (.call 44 (.cons (.ix (.v 2) (.c (.int 0))) (.cons (.lst .nil) .nil)))) (.cons (.forP (.t [5, 6]) (.v 1) (.cons (.ifs (.or (.cmp .Is (.v 4) (.c .non)) (.cmp .NotEq (.bi .tuple (.cons (.v 5) .nil)) (.v 4))) (.cons .never .nil) .nil) (.cons (.asg (.n 7) (.ix (.v 2) (.op .Sub (.bi .len (.cons (.v 3) .nil)) (.c (.int 1))))) (.cons (.ifs (.cmp .Eq (.ix (.v 3) (.neg (.c (.int 1)))) (.lst .nil)) (.cons (.ex (.call 45 (.cons (.v 6) (.cons (.bi .sum (.cons (.v 7) .nil)) .nil)))) .nil) .nil) (.cons (.ex (.meth .append (.ix (.v 3) (.neg (.c (.int 1)))) (.cons (.v 6) .nil))) (.cons (.asg (.n 4) (.call 44 (.cons (.v 7) (.cons (.ix (.v 3) (.neg (.c (.int 1)))) .nil)))) (.cons (.ifs (.and (.cmp .Is (.v 4) (.c .non)) (.cmp .Lt (.bi .len (.cons (.v 3) .nil)) (.bi .len (.cons (.v 2) .nil)))) (.cons (.asg (.n 4) (.call 44 (.cons (.ix (.v 2) (.bi .len (.cons (.v 3) .nil))) (.cons (.lst .nil) .nil)))) (.cons (.ex (.meth .append (.v 3) (.cons (.new .nil) .nil))) .nil)) .nil) .nil))))))) (.cons (.frzD 3) (.cons (.ret (.tup (.cons (.v 3) (.cons (.v 4) .nil)))) .nil)))))
def d_sorted_out : DefI := ⟨"sorted_out", none, "sorted_out", ["many", "answers"], ["many", "answers", "waiting", "values", "wanted", "numbers", "value", "choice"], ⟨2, 8, b_sorted_out⟩, defArgs (top 69), defBody (top 69), defScope (top 69)⟩
def b_powers_at : Ss := (.cons (.par [3, 4] (.cons (.new .nil) (.cons (.v 1) .nil))) (.cons (.for (.n 5) (.v 0) (.cons (.ex (.meth .append (.v 3) (.cons (.ite (.cmp .Eq (.v 5) (.c (.int 1))) (.op .Mod (.v 4) (.v 2)) (.c (.int 0))) .nil))) (.cons (.asg (.n 4) (.ite (.cmp .Eq (.v 5) (.c (.int 1))) (.op .FloorDiv (.v 4) (.v 2)) (.v 4))) .nil))) (.cons (.ret (.bi .tuple (.cons (.v 3) .nil))) .nil)))
def d_powers_at : DefI := ⟨"powers_at", none, "powers_at", ["choice", "place", "steps"], ["choice", "place", "steps", "found", "left", "sign"], ⟨3, 6, b_powers_at⟩, defArgs (top 70), defBody (top 70), defScope (top 70)⟩
def b_digits_of : Ss := (.cons (.par [3, 4] (.cons (.new .nil) (.cons (.v 0) .nil))) (.cons (.wh (.and (.cmp .Gt (.v 4) (.c (.int 0))) (.cmp .Lt (.bi .len (.cons (.v 3) .nil)) (.v 2))) (.cons (.ex (.meth .append (.v 3) (.cons (.op .Mod (.v 4) (.v 1)) .nil))) (.cons (.asg (.n 4) (.op .FloorDiv (.v 4) (.v 1))) .nil))) (.cons (.frz 3) (.cons (.ret (.tup (.cons (.v 3) (.cons (.v 4) .nil)))) .nil))))
def d_digits_of : DefI := ⟨"digits_of", none, "digits_of", ["number", "base", "most"], ["number", "base", "most", "found", "left"], ⟨3, 5, b_digits_of⟩, defArgs (top 71), defBody (top 71), defScope (top 71)⟩
def b_polynomial_of : Ss := (.cons (.asg (.n 2) (.ix (.v 1) (.c (.int 0)))) (.cons (.ifs (.cmp .Eq (.bi .len (.cons (.v 1) .nil)) (.c (.int 1))) (.cons (.ret (.ite (.cmp .Gt (.v 2) (.c (.int 0))) (.tup (.cons (.tup (.cons (.bi .tuple (.cons (.op .Mult (.lst (.cons (.c (.int 0)) .nil)) (.bi .len (.cons (.v 0) .nil))) .nil)) (.cons (.v 2) .nil))) .nil)) (.tup .nil))) .nil) .nil) (.cons (.asg (.n 3) (.call 41 (.cons (.v 2) .nil))) (.cons (.asg (.t [4, 5]) (.call 48 (.cons (.ix (.v 1) (.c (.int 1))) (.cons (.op .Add (.v 2) (.c (.int 1))) (.cons (.call 40 (.cons (.v 3) (.cons (.bi .sum (.cons (.v 0) .nil)) .nil))) .nil))))) (.cons (.asg (.n 6) (.compI false (.t [7, 8]) (.enum (.v 4)) (.cmp .Gt (.v 8) (.c (.int 0))) (.tup (.cons (.call 47 (.cons (.v 0) (.cons (.v 7) (.cons (.v 3) .nil)))) (.cons (.v 8) .nil))))) (.cons (.ifs (.or (.cmp .Gt (.v 5) (.c (.int 0))) (.cmp .NotEq (.bi .sum (.cons (.comp false (.t [9, 8]) (.v 6) (.op .Mult (.v 8) (.call 40 (.cons (.g "FIRST" (.int 2)) (.cons (.bi .sum (.cons (.v 9) .nil)) .nil))))) .nil)) (.v 2))) (.cons (.ret (.c .non)) .nil) .nil) (.cons (.ret (.bi .tuple (.cons (.bi .sorted (.cons (.v 6) .nil)) .nil))) .nil)))))))
def d_polynomial_of : DefI := ⟨"polynomial_of", none, "polynomial_of", ["choice", "values"], ["choice", "values", "first", "steps", "digits", "left", "terms", "place", "share", "powers"], ⟨2, 10, b_polynomial_of⟩, defArgs (top 72), defBody (top 72), defScope (top 72)⟩
def b_need_answers : Ss := (.cons (.ex (.call 4 (.cons (.v 0) .nil))) (.cons (.ifs (.not (.call 39 (.cons (.v 1) (.cons (.v 0) .nil)))) (.cons .never .nil) .nil) .nil))
def d_need_answers : DefI := ⟨"need_answers", none, "need_answers", ["many", "answers"], ["many", "answers"], ⟨2, 2, b_need_answers⟩, defArgs (top 73), defBody (top 73), defScope (top 73)⟩
def b_next_ask : Ss := (.cons (.ex (.call 50 (.cons (.v 0) (.cons (.v 1) .nil)))) (.cons (.ret (.ix (.call 46 (.cons (.v 0) (.cons (.v 1) .nil))) (.c (.int 1)))) .nil))
def d_next_ask : DefI := ⟨"next_ask", none, "next_ask", ["many", "answers"], ["many", "answers"], ⟨2, 2, b_next_ask⟩, defArgs (top 74), defBody (top 74), defScope (top 74)⟩
def b_told_by : Ss := (.cons (.ex (.call 50 (.cons (.v 0) (.cons (.v 1) .nil)))) (.cons (.asg (.t [2, 3]) (.call 46 (.cons (.v 0) (.cons (.v 1) .nil)))) (.cons (.ifs (.cmp .IsNot (.v 3) (.c .non)) (.cons .never .nil) .nil) (.cons (.asg (.n 4) (.new .nil)) (.cons (.for (.t [5, 6]) (.zipG (.call 11 (.cons (.v 0) .nil)) (.v 2)) (.cons (.asg (.n 7) (.call 49 (.cons (.v 5) (.cons (.v 6) .nil)))) (.cons (.ifs (.cmp .Is (.v 7) (.c .non)) (.cons .never .nil) .nil) (.cons (.ex (.meth .append (.v 4) (.cons (.v 7) .nil))) .nil)))) (.cons (.frz 4) (.cons (.ret (.mko "Table" 91 (.cons (.v 0) (.cons (.v 4) .nil)))) .nil)))))))
def d_told_by : DefI := ⟨"told_by", none, "told_by", ["many", "answers"], ["many", "answers", "values", "wanted", "rows", "choice", "told", "polynomial"], ⟨2, 8, b_told_by⟩, defArgs (top 75), defBody (top 75), defScope (top 75)⟩
def b__law_tub : Ss := (.cons (.ret (.new (.cons (.comp false (.n 1) (.sl (.v 0) (.c .non) (.c (.int 62))) (.bi .int (.cons (.v 1) .nil))) (.cons (.c (.int 0)) (.cons (.c (.int 0)) .nil))))) .nil)
def d__law_tub : DefI := ⟨"_law_tub", none, "_law_tub", ["script"], ["script", "cell"], ⟨1, 2, b__law_tub⟩, defArgs (top 77), defBody (top 77), defScope (top 77)⟩
def b__law_dip : Ss := (.cons (.ifs (.cmp .Gt (.ix (.v 0) (.c (.int 2))) (.c (.int 0))) (.cons (.asg (.n 5) (.ix (.v 0) (.c (.int 2)))) (.cons (.put (.v 0) (.c (.int 2)) (.op .FloorDiv (.bi .int (.cons (.v 5) .nil)) (.v 1))) (.cons (.ret (.op .Mod (.bi .int (.cons (.v 5) .nil)) (.v 1))) .nil))) .nil) (.cons (.asg (.n 2) (.ix (.v 0) (.c (.int 1)))) (.cons (.put (.v 0) (.c (.int 1)) (.op .Add (.v 2) (.c (.int 1)))) (.cons (.asg (.n 3) (.op .Add (.op .Mult (.c (.int 61043)) (.v 2)) (.c (.int 3191)))) (.cons (.ifs (.cmp .NotEq (.ix (.v 0) (.c (.int 0))) (.lst .nil)) (.cons (.asg (.n 3) (.ix (.ix (.v 0) (.c (.int 0))) (.op .Mod (.bi .int (.cons (.v 2) .nil)) (.bi .len (.cons (.ix (.v 0) (.c (.int 0))) .nil))))) .nil) .nil) (.cons (.ifs (.and (.cmp .Lt (.v 2) (.bi .len (.cons (.ix (.v 0) (.c (.int 0))) .nil))) (.cmp .GtE (.bi .abs (.cons (.v 3) .nil)) (.op .Pow (.c (.int 10)) (.c (.int 18))))) (.cons (.asg (.n 5) (.op .Add (.op .Mult (.c (.int 2)) (.op .Sub (.bi .abs (.cons (.v 3) .nil)) (.op .Pow (.c (.int 10)) (.c (.int 18))))) (.bi .int (.cons (.cmp .Lt (.v 3) (.c (.int 0))) .nil)))) (.cons (.put (.v 0) (.c (.int 2)) (.op .FloorDiv (.bi .int (.cons (.v 5) .nil)) (.v 1))) (.cons (.ret (.op .Mod (.bi .int (.cons (.v 5) .nil)) (.v 1))) .nil))) .nil) (.cons (.asg (.n 4) (.op .Mod (.bi .int (.cons (.op .Pow (.op .Add (.op .Add (.op .Mod (.bi .int (.cons (.v 3) .nil)) (.c (.int 2147483543))) (.op .Mult (.c (.int 73013)) (.v 2))) (.c (.int 3191))) (.c (.int 5))) .nil)) (.c (.int 2147483549)))) (.cons (.asg (.n 4) (.op .Mod (.bi .int (.cons (.op .Pow (.op .Add (.op .Add (.op .Mult (.v 4) (.op .Add (.op .Mult (.c (.int 2)) (.v 2)) (.c (.int 2659)))) (.op .Mult (.op .Mult (.c (.int 61043)) (.v 2)) (.v 2))) (.c (.int 73013))) (.c (.int 3))) .nil)) (.c (.int 2147483497)))) (.cons (.ret (.op .Mod (.bi .int (.cons (.op .FloorDiv (.v 4) (.c (.int 64))) .nil)) (.v 1))) .nil)))))))))
def d__law_dip : DefI := ⟨"_law_dip", none, "_law_dip", ["tub", "many"], ["tub", "many", "turn", "cell", "mixed", "rest"], ⟨2, 6, b__law_dip⟩, defArgs (top 78), defBody (top 78), defScope (top 78)⟩
def b__law_pick : Ss := (.cons (.ret (.ix (.v 1) (.call 54 (.cons (.v 0) (.cons (.bi .len (.cons (.v 1) .nil)) .nil))))) .nil)
def d__law_pick : DefI := ⟨"_law_pick", none, "_law_pick", ["tub", "some"], ["tub", "some"], ⟨2, 2, b__law_pick⟩, defArgs (top 79), defBody (top 79), defScope (top 79)⟩
def b__law_power : Ss := (.cons (.asg (.n 2) (.c (.int 1))) (.cons (.for (.n 3) (.rng (.c (.int 0)) (.v 1)) (.cons (.asg (.n 2) (.op .Mult (.v 2) (.v 0))) .nil)) (.cons (.ret (.v 2)) .nil)))
def d__law_power : DefI := ⟨"_law_power", none, "_law_power", ["number", "times"], ["number", "times", "found", "turn"], ⟨2, 4, b__law_power⟩, defArgs (top 80), defBody (top 80), defScope (top 80)⟩
def b__law_shares : Ss := (.cons (.par [1, 2] (.cons (.newop .Mult (.lst (.cons (.c (.int 0)) .nil)) (.c (.int 60))) (.cons (.c (.int 0)) .nil))) (.cons (.for (.n 3) (.rng (.c (.int 0)) (.call 54 (.cons (.v 0) (.cons (.c (.int 7)) .nil)))) (.cons (.asg (.n 4) (.call 54 (.cons (.v 0) (.cons (.call 55 (.cons (.v 0) (.cons (.lst (.cons (.c (.int 4)) (.cons (.c (.int 12)) (.cons (.c (.int 60)) (.cons (.c (.int 2)) .nil))))) .nil))) .nil)))) (.cons (.asg (.n 5) (.op .Add (.c (.int 1)) (.call 54 (.cons (.v 0) (.cons (.call 55 (.cons (.v 0) (.cons (.lst (.cons (.c (.int 1)) (.cons (.c (.int 9)) (.cons (.c (.int 1000)) (.cons (.op .Pow (.c (.int 10)) (.c (.int 12))) .nil))))) .nil))) .nil))))) (.cons (.ifs (.cmp .LtE (.op .Add (.v 2) (.op .Mult (.v 5) (.call 56 (.cons (.c (.int 2)) (.cons (.v 4) .nil))))) (.op .Pow (.c (.int 10)) (.c (.int 18)))) (.cons (.put (.v 1) (.v 4) (.op .Add (.ix (.v 1) (.v 4)) (.v 5))) (.cons (.asg (.n 2) (.op .Add (.v 2) (.op .Mult (.v 5) (.call 56 (.cons (.c (.int 2)) (.cons (.v 4) .nil)))))) .nil)) .nil) .nil)))) (.cons (.ret (.frz 1)) .nil)))
def d__law_shares : DefI := ⟨"_law_shares", none, "_law_shares", ["tub"], ["tub", "found", "total", "turn", "power", "share"], ⟨1, 6, b__law_shares⟩, defArgs (top 81), defBody (top 81), defScope (top 81)⟩
def b__law_worth : Ss := (.cons (.asg (.n 2) (.c (.int 0))) (.cons (.for (.n 3) (.rev (.v 0)) (.cons (.asg (.n 2) (.op .Add (.op .Mult (.v 2) (.v 1)) (.v 3))) .nil)) (.cons (.ret (.v 2)) .nil)))
def d__law_worth : DefI := ⟨"_law_worth", none, "_law_worth", ["shares", "number"], ["shares", "number", "total", "share"], ⟨2, 4, b__law_worth⟩, defArgs (top 82), defBody (top 82), defScope (top 82)⟩
def b__law_digits : Ss := (.cons (.par [2, 3] (.cons (.new .nil) (.cons (.v 0) .nil))) (.cons (.for (.n 4) (.rng (.c (.int 0)) (.c (.int 80))) (.cons (.ifs (.cmp .Gt (.v 3) (.c (.int 0))) (.cons (.ex (.meth .append (.v 2) (.cons (.op .Mod (.bi .int (.cons (.v 3) .nil)) (.v 1)) .nil))) (.cons (.asg (.n 3) (.op .FloorDiv (.bi .int (.cons (.v 3) .nil)) (.v 1))) .nil)) .nil) .nil)) (.cons (.frz 2) (.cons (.ret (.ite (.cmp .Eq (.v 3) (.c (.int 0))) (.v 2) (.c .non))) .nil))))
def d__law_digits : DefI := ⟨"_law_digits", none, "_law_digits", ["number", "base"], ["number", "base", "found", "left", "turn"], ⟨2, 5, b__law_digits⟩, defArgs (top 83), defBody (top 83), defScope (top 83)⟩
def b__law_told_right : Ss := (.cons (.asg (.n 3) (.call 58 (.cons (.v 1) (.cons (.c (.int 2)) .nil)))) (.cons (.asg (.n 4) (.new (.cons (.tup (.cons (.tup (.cons (.c (.int 0)) .nil)) (.cons (.v 2) .nil))) (.cons (.lst (.cons (.lst (.cons (.c (.int 2)) .nil)) (.cons (.v 3) .nil))) .nil)))) (.cons (.ifs (.cmp .Gt (.v 3) (.c (.int 1))) (.cons (.asg (.n 11) (.call 58 (.cons (.v 1) (.cons (.op .Add (.v 3) (.c (.int 1))) .nil)))) (.cons (.asg (.n 12) (.call 59 (.cons (.v 11) (.cons (.op .Add (.v 3) (.c (.int 1))) .nil)))) (.cons (.ifs (.or (.cmp .NotEq (.call 51 (.cons (.c (.int 1)) (.cons (.v 4) .nil))) (.tup (.cons (.op .Add (.v 3) (.c (.int 1))) .nil))) (.or (.cmp .NotEq (.v 12) (.sl (.v 1) (.c .non) (.bi .len (.cons (.v 12) .nil)))) (.cmp .NotEq (.bi .sum (.cons (.sl (.v 1) (.bi .len (.cons (.v 12) .nil)) (.c .non)) .nil)) (.c (.int 0))))) (.cons (.ret (.c (.bl false))) .nil) .nil) (.cons (.ex (.meth .append (.v 4) (.cons (.tup (.cons (.tup (.cons (.op .Add (.v 3) (.c (.int 1))) .nil)) (.cons (.v 11) .nil))) .nil))) .nil)))) .nil) (.cons (.asg (.n 5) (.callK 52 .nil (.cons (.v 4) (.cons (.c (.int 1)) Es.nil)) [1, 0])) (.cons (.asg (.n 6) (.bi .tuple (.cons (.compI false (.t [13, 14]) (.enum (.v 1)) (.cmp .Gt (.v 14) (.c (.int 0))) (.tup (.cons (.tup (.cons (.v 13) .nil)) (.cons (.v 14) .nil)))) .nil))) (.cons (.asg (.n 7) (.tup (.cons (.ite (.cmp .Gt (.v 2) (.c (.int 0))) (.tup (.cons (.tup (.cons (.tup (.cons (.c (.int 0)) .nil)) (.cons (.v 2) .nil))) .nil)) (.tup .nil)) (.cons (.v 6) .nil)))) (.cons (.ifs (.or (.not (.isC (.v 5) "Table" ["Table"] [])) (.or (.cmp .NotEq (.fld "Table" (.v 5) "many") (.c (.int 1))) (.or (.cmp .NotEq (.fld "Table" (.v 5) "rows") (.v 7)) (.or (.oeq true "Table" 97 (.v 5) (.mko "Table" 91 (.cons (.c (.int 1)) (.cons (.v 7) .nil)))) (.cmp .IsNot (.call 51 (.cons (.c (.int 1)) (.cons (.v 4) .nil))) (.c .non)))))) (.cons (.ret (.c (.bl false))) .nil) .nil) (.cons (.ifs (.cmp .NotEq (.compI false (.n 15) (.ix (.fld "Table" (.v 5) "rows") (.c (.int 1))) (.or (.isi (.ix (.v 15) (.c (.int 1))) [.bool]) (.not (.isi (.ix (.v 15) (.c (.int 0))) [.tuple]))) (.v 15)) (.lst .nil)) (.cons (.ret (.c (.bl false))) .nil) .nil) (.cons (.frz 4) (.cons (.for (.t [8, 9]) (.v 4) (.cons (.ifs (.cmp .NotEq (.mcall "Table" "at" 30 (.v 5) (.cons (.bi .list (.cons (.v 8) .nil)) .nil)) (.v 9)) (.cons (.ret (.c (.bl false))) .nil) .nil) .nil)) (.cons (.asg (.n 10) (.op .Add (.c (.int 1)) (.call 54 (.cons (.v 0) (.cons (.call 55 (.cons (.v 0) (.cons (.lst (.cons (.c (.int 9)) (.cons (.c (.int 1000)) (.cons (.op .Pow (.c (.int 10)) (.c (.int 15))) .nil)))) .nil))) .nil))))) (.cons (.ret (.and (.cmp .Eq (.mcall "Table" "at" 30 (.v 5) (.cons (.tup (.cons (.v 10) .nil)) .nil)) (.call 58 (.cons (.v 1) (.cons (.v 10) .nil)))) (.oeq false "Table" 35 (.call 52 (.cons (.c (.int 1)) (.cons (.bi .tuple (.cons (.v 4) .nil)) .nil))) (.v 5)))) .nil))))))))))))
def d__law_told_right : DefI := ⟨"_law_told_right", none, "_law_told_right", ["tub", "shares", "none"], ["tub", "shares", "none", "value", "answers", "told", "terms", "due", "numbers", "answer", "far", "second", "digits", "power", "share", "term"], ⟨3, 16, b__law_told_right⟩, defArgs (top 84), defBody (top 84), defScope (top 84)⟩
def b_law : Ss := (.cons (.asg (.n 1) (.call 53 (.cons (.v 0) .nil))) (.cons (.for (.n 2) (.rng (.c (.int 0)) (.c (.int 3))) (.cons (.asg (.n 5) (.call 55 (.cons (.v 1) (.cons (.lst (.cons (.c (.int 0)) (.cons (.c (.int 1)) (.cons (.c (.int 5)) (.cons (.op .Pow (.c (.int 10)) (.c (.int 40))) .nil))))) .nil)))) (.cons (.ifs (.not (.call 60 (.cons (.v 1) (.cons (.call 57 (.cons (.v 1) .nil)) (.cons (.v 5) .nil))))) (.cons (.ret (.c (.bl false))) .nil) .nil) .nil))) (.cons (.par [3, 4] (.cons (.op .Add (.op .Mult (.lst (.cons (.c (.int 0)) .nil)) (.c (.int 59))) (.lst (.cons (.c (.int 1)) .nil))) (.cons (.op .Add (.lst (.cons (.c (.int 0)) (.cons (.c (.int 1)) .nil))) (.op .Mult (.lst (.cons (.c (.int 0)) .nil)) (.c (.int 58)))) .nil))) (.cons (.ret (.and (.call 60 (.cons (.v 1) (.cons (.v 3) (.cons (.c (.int 0)) .nil)))) (.and (.call 60 (.cons (.v 1) (.cons (.v 4) (.cons (.c (.int 1)) .nil)))) (.and (.call 60 (.cons (.v 1) (.cons (.op .Mult (.lst (.cons (.c (.int 0)) .nil)) (.c (.int 60))) (.cons (.c (.int 3)) .nil)))) (.call 60 (.cons (.v 1) (.cons (.op .Add (.lst (.cons (.c (.int 1)) .nil)) (.op .Mult (.lst (.cons (.c (.int 0)) .nil)) (.c (.int 59)))) (.cons (.c (.int 0)) .nil)))))))) .nil))))
def d_law : DefI := ⟨"law", none, "law", ["script"], ["script", "tub", "turn", "top", "straight", "none"], ⟨1, 6, b_law⟩, defArgs (top 85), defBody (top 85), defScope (top 85)⟩
def Ds : List DefI := [d__wall, d_is_integer, d_is_within, d_need_number, d_need_many, d_are_numbers, d_need_numbers, d_fixed, d_is_powers, d_is_term, d_is_polynomial, d_choices, d_choice_of, d_choice_number, d_as_polynomial, d_gathered, d_multiplied, d_so_often, d_worth_of, d_most_power, d_number_of_item, d_are_rows, d_term_text, d_row_text, d_term_of_item, d_take_term, d_take_row, d_take_many, d_need_few, d_Table_init, d_Table_at, d_Table_need_like, d_Table_plus, d_Table_times, d_Table_put_in, d_Table_eq, d_Table_str, d_need_table, d_is_answer, d_are_answers, d_raised, d_steps_of_places, d_spread, d_second_numbers, d_next_of, d_need_small, d_sorted_out, d_powers_at, d_digits_of, d_polynomial_of, d_need_answers, d_next_ask, d_told_by, d__law_tub, d__law_dip, d__law_pick, d__law_power, d__law_shares, d__law_worth, d__law_digits, d__law_told_right, d_law]
theorem kw_told_by_0_answers_many : KwOk d_told_by 0 ["answers", "many"] [1, 0] := fun _ _ _ _ _ _ us ws h1 h2 => match us, ws, h1, h2 with | [], [_, _], _, _ => rfl
/-- what the top has left beside the defs -/
structure Zs (K : PySem.W.Frag) (mg : Str → Option Value) : Prop where
  g_COLON : GlobOk K mg "COLON" (.str ":")
  g_DIGITS : GlobOk K mg "DIGITS" (.str "0123456789")
  g_DOT : GlobOk K mg "DOT" (.str ".")
  g_FIRST : GlobOk K mg "FIRST" (.int 2)
  g_MOST_DIGITS : GlobOk K mg "MOST_DIGITS" (.int 60)
  g_MOST_MANY_checks : GlobOk K mg "MOST_MANY_checks" (.int 3)
  g_MOST_MANY_polynomials : GlobOk K mg "MOST_MANY_polynomials" (.int 3)
  g_MOST_POWER : GlobOk K mg "MOST_POWER" (.int 60)
  g_MOST_PRODUCTS : GlobOk K mg "MOST_PRODUCTS" (.int 20000)
  g_MOST_VALUES : GlobOk K mg "MOST_VALUES" (.tup [.non, (.int 1000000000000000000), (.int 10000), (.int 200)])
  g_NEXT : GlobOk K mg "NEXT" (.str "/")
  g_NONE : GlobOk K mg "NONE" (.str "0")
  f_abs : mg "abs" = none
  f_all : mg "all" = none
  f_bool : mg "bool" = none
  f_enumerate : mg "enumerate" = none
  f_int : mg "int" = none
  f_isinstance : mg "isinstance" = none
  f_len : mg "len" = none
  f_list : mg "list" = none
  f_range : mg "range" = none
  f_sorted : mg "sorted" = none
  f_str : mg "str" = none
  f_sum : mg "sum" = none
  f_tuple : mg "tuple" = none
  f_zip : mg "zip" = none
  m_Table : mg "Table" = some (.ref (He.ga K "Table"))
  k_Table : ClsFacts K "Table" ["Table"] []
  e_Table : NeFacts K "Table"
  c_Table : Cls K (He.ga K "Table")
  n_Table_many : NoAttr K (He.ga K "Table") "many"
  n_Table_rows : NoAttr K (He.ga K "Table") "rows"
section
variable {P : Program} {w : World} {K : PySem.W.Frag} {mg : Str → Option Value} {base : Heap} {k : Nat} {f : Addr} {cdv : Value} {A : Around} {outer : List PySem.Env} {s : Shared} {H : Hp}
theorem ok__wall (Z : Zs K mg) (B : BodyOk (BodyX P w K mg base ["k"] "_wall" (defScope (top 0)) f cdv A outer s H) Ds 1000000 k) :
    PSs (BodyX P w K mg base ["k"] "_wall" (defScope (top 0)) f cdv A outer s H) (defBody (top 0)) (tSs K (run (Fns Ds) 1000000 k) 1000000 b__wall) :=
  (ss_cons (s_wh PassesOwn.never (t_e i_bl) (ss_cons s_pass ss_nil)) ss_nil)
theorem ok_is_integer (Z : Zs K mg) (B : BodyOk (BodyX P w K mg base ["value"] "is_integer" (defScope (top 12)) f cdv A outer s H) Ds 1000000 k) :
    PSs (BodyX P w K mg base ["value"] "is_integer" (defScope (top 12)) f cdv A outer s H) (defBody (top 12)) (tSs K (run (Fns Ds) 1000000 k) 1000000 b_is_integer) :=
  (ss_cons (s_ret (i_and (i_is1 (by rfl) Z.f_isinstance (i_v (i := 0) (by rfl) (by first | exact .inl rfl | exact .inr (.inl rfl) | exact .inr (.inr rfl))) (ty_ok (t := .int) (by rfl) Z.f_int boot_int)) (i_one (i_not (i_is1 (by rfl) Z.f_isinstance (i_v (i := 0) (by rfl) (by first | exact .inl rfl | exact .inr (.inl rfl) | exact .inr (.inr rfl))) (ty_ok (t := .bool) (by rfl) Z.f_bool boot_bool)))))) ss_nil)
theorem ok_is_within (Z : Zs K mg) (B : BodyOk (BodyX P w K mg base ["value", "least", "most"] "is_within" (defScope (top 13)) f cdv A outer s H) Ds 1000000 k) :
    PSs (BodyX P w K mg base ["value", "least", "most"] "is_within" (defScope (top 13)) f cdv A outer s H) (defBody (top 13)) (tSs K (run (Fns Ds) 1000000 k) 1000000 b_is_within) :=
  (ss_cons (s_if (t_w (w_or (t_not (t_e (i_call B.ok (by rfl) (B.call 1 d_is_integer rfl rfl) (a_cons (i_v (i := 0) (by rfl) (by first | exact .inl rfl | exact .inr (.inl rfl) | exact .inr (.inr rfl))) a_nil)))) (w_or1 (t_w (w_and (t_cmp B.ok (i_v (i := 1) (by rfl) (by first | exact .inl rfl | exact .inr (.inl rfl) | exact .inr (.inr rfl))) i_non) (w_and1 (t_cmp B.ok (i_v (i := 0) (by rfl) (by first | exact .inl rfl | exact .inr (.inl rfl) | exact .inr (.inr rfl))) (i_v (i := 1) (by rfl) (by first | exact .inl rfl | exact .inr (.inl rfl) | exact .inr (.inr rfl)))))))))) (ss_cons (s_ret i_bl) ss_nil) ss_nil) (ss_cons (s_ret (i_or (i_cmp B.ok (i_v (i := 2) (by rfl) (by first | exact .inl rfl | exact .inr (.inl rfl) | exact .inr (.inr rfl))) i_non) (i_one (i_cmp B.ok (i_v (i := 0) (by rfl) (by first | exact .inl rfl | exact .inr (.inl rfl) | exact .inr (.inr rfl))) (i_v (i := 2) (by rfl) (by first | exact .inl rfl | exact .inr (.inl rfl) | exact .inr (.inr rfl))))))) ss_nil))
theorem ok_need_number (Z : Zs K mg) (B : BodyOk (BodyX P w K mg base ["value", "part", "least", "most"] "need_number" (defScope (top 14)) f cdv A outer s H) Ds 1000000 k) :
    PSs (BodyX P w K mg base ["value", "part", "least", "most"] "need_number" (defScope (top 14)) f cdv A outer s H) (defBody (top 14)) (tSs K (run (Fns Ds) 1000000 k) 1000000 b_need_number) :=
  (ss_cons (s_if (t_not (t_e (i_call B.ok (by rfl) (B.call 2 d_is_within rfl rfl) (a_cons (i_v (i := 0) (by rfl) (by first | exact .inl rfl | exact .inr (.inl rfl) | exact .inr (.inr rfl))) (a_cons (i_v (i := 2) (by rfl) (by first | exact .inl rfl | exact .inr (.inl rfl) | exact .inr (.inr rfl))) (a_cons (i_v (i := 3) (by rfl) (by first | exact .inl rfl | exact .inr (.inl rfl) | exact .inr (.inr rfl))) a_nil)))))) (ss_cons s_never ss_nil) ss_nil) ss_nil)
theorem ok_need_many (Z : Zs K mg) (B : BodyOk (BodyX P w K mg base ["value"] "need_many" (defScope (top 15)) f cdv A outer s H) Ds 1000000 k) :
    PSs (BodyX P w K mg base ["value"] "need_many" (defScope (top 15)) f cdv A outer s H) (defBody (top 15)) (tSs K (run (Fns Ds) 1000000 k) 1000000 b_need_many) :=
  (ss_cons (s_ex (i_call B.ok (by rfl) (B.call 3 d_need_number rfl rfl) (a_cons (i_v (i := 0) (by rfl) (by first | exact .inl rfl | exact .inr (.inl rfl) | exact .inr (.inr rfl))) (a_cons i_str (a_cons i_int (a_cons (i_g (by rfl) Z.g_MOST_MANY_checks) a_nil)))))) ss_nil)
theorem ok_are_numbers (Z : Zs K mg) (B : BodyOk (BodyX P w K mg base ["value", "part"] "are_numbers" (defScope (top 16)) f cdv A outer s H) Ds 1000000 k) :
    PSs (BodyX P w K mg base ["value", "part"] "are_numbers" (defScope (top 16)) f cdv A outer s H) (defBody (top 16)) (tSs K (run (Fns Ds) 1000000 k) 1000000 b_are_numbers) :=
  (ss_cons (s_ret (i_and (i_isT (by decide) (by rfl) Z.f_isinstance (i_v (i := 0) (by rfl) (by first | exact .inl rfl | exact .inr (.inl rfl) | exact .inr (.inr rfl))) (tys_cons (ty_ok (t := .list) (by rfl) Z.f_list boot_list) (tys_cons (ty_ok (t := .tuple) (by rfl) Z.f_tuple boot_tuple) tys_nil))) (i_one (i_biB B.ok (b := .all) rfl (by rfl) Z.f_all boot_all (a_cons (i_comp B.ok rfl (it_e (i_v (i := 0) (by rfl) (by first | exact .inl rfl | exact .inr (.inl rfl) | exact .inr (.inr rfl)))) (blkOk_by (N := ["value", "part"]) (sc := (defScope (top 16))) (own := [("part", 1)]) (by decide +kernel)) (fun _ _ _ _ _ => (g_n (i := 1) (cok_blk B.ok) rfl (by first | exact .inl rfl | exact .inr rfl) (by first | exact .inl rfl | exact .inr rfl))) (fun _ _ _ _ _ => (i_call (cok_blk B.ok) (by rfl) (call_blk (B.call 2 d_is_within rfl rfl)) (a_cons (i_v (i := 1) (by rfl) (by first | exact .inl rfl | exact .inr (.inl rfl) | exact .inr (.inr rfl))) (a_cons i_int (a_cons i_non a_nil)))))) a_nil))))) ss_nil)
theorem ok_need_numbers (Z : Zs K mg) (B : BodyOk (BodyX P w K mg base ["value", "part", "many"] "need_numbers" (defScope (top 17)) f cdv A outer s H) Ds 1000000 k) :
    PSs (BodyX P w K mg base ["value", "part", "many"] "need_numbers" (defScope (top 17)) f cdv A outer s H) (defBody (top 17)) (tSs K (run (Fns Ds) 1000000 k) 1000000 b_need_numbers) :=
  (ss_cons (s_if (t_w (w_or (t_not (t_e (i_call B.ok (by rfl) (B.call 5 d_are_numbers rfl rfl) (a_cons (i_v (i := 0) (by rfl) (by first | exact .inl rfl | exact .inr (.inl rfl) | exact .inr (.inr rfl))) a_nil)))) (w_or1 (t_cmp B.ok (i_biB B.ok (b := .len) rfl (by rfl) Z.f_len boot_len (a_cons (i_v (i := 0) (by rfl) (by first | exact .inl rfl | exact .inr (.inl rfl) | exact .inr (.inr rfl))) a_nil)) (i_v (i := 2) (by rfl) (by first | exact .inl rfl | exact .inr (.inl rfl) | exact .inr (.inr rfl))))))) (ss_cons s_never ss_nil) ss_nil) ss_nil)
theorem ok_fixed (Z : Zs K mg) (B : BodyOk (BodyX P w K mg base ["value", "part"] "fixed" (defScope (top 19)) f cdv A outer s H) Ds 1000000 k) :
    PSs (BodyX P w K mg base ["value", "part"] "fixed" (defScope (top 19)) f cdv A outer s H) (defBody (top 19)) (tSs K (run (Fns Ds) 1000000 k) 1000000 b_fixed) :=
  (ss_cons (s_if (t_not (t_e (i_isT (by decide) (by rfl) Z.f_isinstance (i_v (i := 0) (by rfl) (by first | exact .inl rfl | exact .inr (.inl rfl) | exact .inr (.inr rfl))) (tys_cons (ty_ok (t := .list) (by rfl) Z.f_list boot_list) (tys_cons (ty_ok (t := .tuple) (by rfl) Z.f_tuple boot_tuple) tys_nil))))) (ss_cons (s_ret (i_v (i := 0) (by rfl) (by first | exact .inl rfl | exact .inr (.inl rfl) | exact .inr (.inr rfl)))) ss_nil) ss_nil) (ss_cons (s_ret (i_biT B.ok (b := .tuple) rfl (by rfl) Z.f_tuple boot_tuple (a_cons (i_comp B.ok rfl (it_e (i_v (i := 0) (by rfl) (by first | exact .inl rfl | exact .inr (.inl rfl) | exact .inr (.inr rfl)))) (blkOk_by (N := ["value", "part"]) (sc := (defScope (top 19))) (own := [("part", 1)]) (by decide +kernel)) (fun _ _ _ _ _ => (g_n (i := 1) (cok_blk B.ok) rfl (by first | exact .inl rfl | exact .inr rfl) (by first | exact .inl rfl | exact .inr rfl))) (fun _ _ _ _ _ => (i_call (cok_blk B.ok) (by rfl) (call_blk (B.call 7 d_fixed rfl rfl)) (a_cons (i_v (i := 1) (by rfl) (by first | exact .inl rfl | exact .inr (.inl rfl) | exact .inr (.inr rfl))) a_nil)))) a_nil))) ss_nil))
theorem ok_is_powers (Z : Zs K mg) (B : BodyOk (BodyX P w K mg base ["choice", "value", "tops", "sign", "top", "power"] "is_powers" (defScope (top 25)) f cdv A outer s H) Ds 1000000 k) :
    PSs (BodyX P w K mg base ["choice", "value", "tops", "sign", "top", "power"] "is_powers" (defScope (top 25)) f cdv A outer s H) (defBody (top 25)) (tSs K (run (Fns Ds) 1000000 k) 1000000 b_is_powers) :=
  (ss_cons (s_if (t_w (w_or (t_not (t_e (i_isT (by decide) (by rfl) Z.f_isinstance (i_v (i := 1) (by rfl) (by first | exact .inl rfl | exact .inr (.inl rfl) | exact .inr (.inr rfl))) (tys_cons (ty_ok (t := .list) (by rfl) Z.f_list boot_list) (tys_cons (ty_ok (t := .tuple) (by rfl) Z.f_tuple boot_tuple) tys_nil))))) (w_or1 (t_cmp B.ok (i_biB B.ok (b := .len) rfl (by rfl) Z.f_len boot_len (a_cons (i_v (i := 1) (by rfl) (by first | exact .inl rfl | exact .inr (.inl rfl) | exact .inr (.inr rfl))) a_nil)) (i_biB B.ok (b := .len) rfl (by rfl) Z.f_len boot_len (a_cons (i_v (i := 0) (by rfl) (by first | exact .inl rfl | exact .inr (.inl rfl) | exact .inr (.inr rfl))) a_nil)))))) (ss_cons (s_ret i_bl) ss_nil) ss_nil) (ss_cons (s_setLc (i := 2) B.ok rfl rfl (sw_true rfl rfl rfl (by decide +kernel)) rfl (it_e (i_v (i := 0) (by rfl) (by first | exact .inl rfl | exact .inr (.inl rfl) | exact .inr (.inr rfl)))) (blkOk_by (N := ["choice", "value", "tops", "sign", "top", "power"]) (sc := (defScope (top 25))) (own := [("sign", 3)]) (by decide +kernel)) (fun _ _ _ _ _ => (g_n (i := 3) (cok_blk B.ok) rfl (by first | exact .inl rfl | exact .inr rfl) (by first | exact .inl rfl | exact .inr rfl))) (fun _ _ _ _ _ => (i_ite (t_cmp (cok_blk B.ok) (i_v (i := 3) (by rfl) (by first | exact .inl rfl | exact .inr (.inl rfl) | exact .inr (.inr rfl))) i_int) (i_g (by rfl) Z.g_MOST_POWER) i_int))) (ss_cons (s_ret (i_biB B.ok (b := .all) rfl (by rfl) Z.f_all boot_all (a_cons (i_comp B.ok rfl (it_zipG (by rfl) Z.f_zip (i_v (i := 2) (by rfl) (by first | exact .inl rfl | exact .inr (.inl rfl) | exact .inr (.inr rfl))) (i_v (i := 1) (by rfl) (by first | exact .inl rfl | exact .inr (.inl rfl) | exact .inr (.inr rfl)))) (blkOk_by (N := ["choice", "value", "tops", "sign", "top", "power"]) (sc := (defScope (top 25))) (own := [("top", 4), ("power", 5)]) (by decide +kernel)) (fun _ _ _ _ _ => (g_t (cok_blk B.ok) (.cons (i := 4) rfl (by first | exact .inl rfl | exact .inr rfl) (by first | exact .inl rfl | exact .inr rfl) (.cons (i := 5) rfl (by first | exact .inl rfl | exact .inr rfl) (by first | exact .inl rfl | exact .inr rfl) .nil)))) (fun _ _ _ _ _ => (i_call (cok_blk B.ok) (by rfl) (call_blk (B.call 2 d_is_within rfl rfl)) (a_cons (i_v (i := 5) (by rfl) (by first | exact .inl rfl | exact .inr (.inl rfl) | exact .inr (.inr rfl))) (a_cons i_int (a_cons (i_v (i := 4) (by rfl) (by first | exact .inl rfl | exact .inr (.inl rfl) | exact .inr (.inr rfl))) a_nil)))))) a_nil))) ss_nil)))
theorem ok_is_term (Z : Zs K mg) (B : BodyOk (BodyX P w K mg base ["choice", "value"] "is_term" (defScope (top 26)) f cdv A outer s H) Ds 1000000 k) :
    PSs (BodyX P w K mg base ["choice", "value"] "is_term" (defScope (top 26)) f cdv A outer s H) (defBody (top 26)) (tSs K (run (Fns Ds) 1000000 k) 1000000 b_is_term) :=
  (ss_cons (s_if (t_w (w_or (t_not (t_e (i_isT (by decide) (by rfl) Z.f_isinstance (i_v (i := 1) (by rfl) (by first | exact .inl rfl | exact .inr (.inl rfl) | exact .inr (.inr rfl))) (tys_cons (ty_ok (t := .list) (by rfl) Z.f_list boot_list) (tys_cons (ty_ok (t := .tuple) (by rfl) Z.f_tuple boot_tuple) tys_nil))))) (w_or1 (t_cmp B.ok (i_biB B.ok (b := .len) rfl (by rfl) Z.f_len boot_len (a_cons (i_v (i := 1) (by rfl) (by first | exact .inl rfl | exact .inr (.inl rfl) | exact .inr (.inr rfl))) a_nil)) i_int)))) (ss_cons (s_ret i_bl) ss_nil) ss_nil) (ss_cons (s_ret (i_and (i_call B.ok (by rfl) (B.call 8 d_is_powers rfl rfl) (a_cons (i_v (i := 0) (by rfl) (by first | exact .inl rfl | exact .inr (.inl rfl) | exact .inr (.inr rfl))) (a_cons (i_ix (i_v (i := 1) (by rfl) (by first | exact .inl rfl | exact .inr (.inl rfl) | exact .inr (.inr rfl))) i_int) a_nil))) (i_one (i_call B.ok (by rfl) (B.call 2 d_is_within rfl rfl) (a_cons (i_ix (i_v (i := 1) (by rfl) (by first | exact .inl rfl | exact .inr (.inl rfl) | exact .inr (.inr rfl))) i_int) (a_cons i_int (a_cons i_non a_nil))))))) ss_nil))
theorem ok_is_polynomial (Z : Zs K mg) (B : BodyOk (BodyX P w K mg base ["many", "choice", "value", "powers", "term", "one", "other"] "is_polynomial" (defScope (top 27)) f cdv A outer s H) Ds 1000000 k) :
    PSs (BodyX P w K mg base ["many", "choice", "value", "powers", "term", "one", "other"] "is_polynomial" (defScope (top 27)) f cdv A outer s H) (defBody (top 27)) (tSs K (run (Fns Ds) 1000000 k) 1000000 b_is_polynomial) :=
  (ss_cons (s_if (t_w (w_or (t_not (t_e (i_isT (by decide) (by rfl) Z.f_isinstance (i_v (i := 2) (by rfl) (by first | exact .inl rfl | exact .inr (.inl rfl) | exact .inr (.inr rfl))) (tys_cons (ty_ok (t := .list) (by rfl) Z.f_list boot_list) (tys_cons (ty_ok (t := .tuple) (by rfl) Z.f_tuple boot_tuple) tys_nil))))) (w_or1 (t_cmp B.ok (i_biB B.ok (b := .len) rfl (by rfl) Z.f_len boot_len (a_cons (i_v (i := 1) (by rfl) (by first | exact .inl rfl | exact .inr (.inl rfl) | exact .inr (.inr rfl))) a_nil)) (i_v (i := 0) (by rfl) (by first | exact .inl rfl | exact .inr (.inl rfl) | exact .inr (.inr rfl))))))) (ss_cons (s_ret i_bl) ss_nil) ss_nil) (ss_cons (s_if (t_not (t_e (i_biB B.ok (b := .all) rfl (by rfl) Z.f_all boot_all (a_cons (i_comp B.ok rfl (it_e (i_v (i := 2) (by rfl) (by first | exact .inl rfl | exact .inr (.inl rfl) | exact .inr (.inr rfl)))) (blkOk_by (N := ["many", "choice", "value", "powers", "term", "one", "other"]) (sc := (defScope (top 27))) (own := [("term", 4)]) (by decide +kernel)) (fun _ _ _ _ _ => (g_n (i := 4) (cok_blk B.ok) rfl (by first | exact .inl rfl | exact .inr rfl) (by first | exact .inl rfl | exact .inr rfl))) (fun _ _ _ _ _ => (i_call (cok_blk B.ok) (by rfl) (call_blk (B.call 9 d_is_term rfl rfl)) (a_cons (i_v (i := 1) (by rfl) (by first | exact .inl rfl | exact .inr (.inl rfl) | exact .inr (.inr rfl))) (a_cons (i_v (i := 4) (by rfl) (by first | exact .inl rfl | exact .inr (.inl rfl) | exact .inr (.inr rfl))) a_nil))))) a_nil)))) (ss_cons (s_ret i_bl) ss_nil) ss_nil) (ss_cons (s_setLc (i := 3) B.ok rfl rfl (sw_true rfl rfl rfl (by decide +kernel)) rfl (it_e (i_v (i := 2) (by rfl) (by first | exact .inl rfl | exact .inr (.inl rfl) | exact .inr (.inr rfl)))) (blkOk_by (N := ["many", "choice", "value", "powers", "term", "one", "other"]) (sc := (defScope (top 27))) (own := [("term", 4)]) (by decide +kernel)) (fun _ _ _ _ _ => (g_n (i := 4) (cok_blk B.ok) rfl (by first | exact .inl rfl | exact .inr rfl) (by first | exact .inl rfl | exact .inr rfl))) (fun _ _ _ _ _ => (i_biT (cok_blk B.ok) (b := .tuple) rfl (by rfl) Z.f_tuple boot_tuple (a_cons (i_ix (i_v (i := 4) (by rfl) (by first | exact .inl rfl | exact .inr (.inl rfl) | exact .inr (.inr rfl))) i_int) a_nil)))) (ss_cons (s_ret (i_biB B.ok (b := .all) rfl (by rfl) Z.f_all boot_all (a_cons (i_comp B.ok rfl (it_zipG (by rfl) Z.f_zip (i_v (i := 3) (by rfl) (by first | exact .inl rfl | exact .inr (.inl rfl) | exact .inr (.inr rfl))) (i_sl (i_v (i := 3) (by rfl) (by first | exact .inl rfl | exact .inr (.inl rfl) | exact .inr (.inr rfl))) (o_some i_int) o_none)) (blkOk_by (N := ["many", "choice", "value", "powers", "term", "one", "other"]) (sc := (defScope (top 27))) (own := [("one", 5), ("other", 6)]) (by decide +kernel)) (fun _ _ _ _ _ => (g_t (cok_blk B.ok) (.cons (i := 5) rfl (by first | exact .inl rfl | exact .inr rfl) (by first | exact .inl rfl | exact .inr rfl) (.cons (i := 6) rfl (by first | exact .inl rfl | exact .inr rfl) (by first | exact .inl rfl | exact .inr rfl) .nil)))) (fun _ _ _ _ _ => (i_cmp (cok_blk B.ok) (i_v (i := 5) (by rfl) (by first | exact .inl rfl | exact .inr (.inl rfl) | exact .inr (.inr rfl))) (i_v (i := 6) (by rfl) (by first | exact .inl rfl | exact .inr (.inl rfl) | exact .inr (.inr rfl)))))) a_nil))) ss_nil))))
theorem ok_choices (Z : Zs K mg) (B : BodyOk (BodyX P w K mg base ["many", "found", "_", "signs", "sign"] "choices" (defScope (top 28)) f cdv A outer s H) Ds 1000000 k) :
    PSs (BodyX P w K mg base ["many", "found", "_", "signs", "sign"] "choices" (defScope (top 28)) f cdv A outer s H) (defBody (top 28)) (tSs K (run (Fns Ds) 1000000 k) 1000000 b_choices) :=
  (ss_cons (s_ex (i_call B.ok (by rfl) (B.call 4 d_need_many rfl rfl) (a_cons (i_v (i := 0) (by rfl) (by first | exact .inl rfl | exact .inr (.inl rfl) | exact .inr (.inr rfl))) a_nil))) (ss_cons (s_set (i := 1) B.ok rfl (by first | exact .inl rfl | exact .inr rfl) (i_lst (a_cons (i_tup a_nil) a_nil)) rfl (by first | exact .inl rfl | exact .inr rfl)) (ss_cons (s_for B.ok PassesOwn.never (it_rng1 (by rfl) Z.f_range (i_v (i := 0) (by rfl) (by first | exact .inl rfl | exact .inr (.inl rfl) | exact .inr (.inr rfl)))) (g_n (i := 2) B.ok rfl (by first | exact .inl rfl | exact .inr rfl) (by first | exact .inl rfl | exact .inr rfl)) (ss_cons (s_setLc2 (i := 1) B.ok rfl rfl (sw_true rfl rfl rfl (by decide +kernel)) rfl (it_e (i_v (i := 1) (by rfl) (by first | exact .inl rfl | exact .inr (.inl rfl) | exact .inr (.inr rfl)))) (blkOk_by (N := ["many", "found", "_", "signs", "sign"]) (sc := (defScope (top 28))) (own := [("signs", 3), ("sign", 4)]) (by decide +kernel)) (fun _ _ _ _ _ => (g_n (i := 3) (cok_blk B.ok) rfl (by first | exact .inl rfl | exact .inr rfl) (by first | exact .inl rfl | exact .inr rfl))) (fun _ _ _ _ _ => (it_e (i_tup (a_cons i_int (a_cons i_int a_nil))))) (fun _ _ _ _ _ => (g_n (i := 4) (cok_blk B.ok) rfl (by first | exact .inl rfl | exact .inr rfl) (by first | exact .inl rfl | exact .inr rfl))) (fun _ _ _ _ _ => (i_tup (a_star (i_v (i := 3) (by rfl) (by first | exact .inl rfl | exact .inr (.inl rfl) | exact .inr (.inr rfl))) (a_cons (i_v (i := 4) (by rfl) (by first | exact .inl rfl | exact .inr (.inl rfl) | exact .inr (.inr rfl))) a_nil))))) ss_nil)) (ss_cons (s_ret (i_biT B.ok (b := .tuple) rfl (by rfl) Z.f_tuple boot_tuple (a_cons (i_v (i := 1) (by rfl) (by first | exact .inl rfl | exact .inr (.inl rfl) | exact .inr (.inr rfl))) a_nil))) ss_nil))))
theorem ok_choice_of (Z : Zs K mg) (B : BodyOk (BodyX P w K mg base ["numbers", "number"] "choice_of" (defScope (top 29)) f cdv A outer s H) Ds 1000000 k) :
    PSs (BodyX P w K mg base ["numbers", "number"] "choice_of" (defScope (top 29)) f cdv A outer s H) (defBody (top 29)) (tSs K (run (Fns Ds) 1000000 k) 1000000 b_choice_of) :=
  (ss_cons (s_if (t_w (w_or (t_not (t_e (i_call B.ok (by rfl) (B.call 5 d_are_numbers rfl rfl) (a_cons (i_v (i := 0) (by rfl) (by first | exact .inl rfl | exact .inr (.inl rfl) | exact .inr (.inr rfl))) a_nil)))) (w_or1 (t_cmp B.ok (i_biB B.ok (b := .len) rfl (by rfl) Z.f_len boot_len (a_cons (i_v (i := 0) (by rfl) (by first | exact .inl rfl | exact .inr (.inl rfl) | exact .inr (.inr rfl))) a_nil)) (i_g (by rfl) Z.g_MOST_MANY_polynomials))))) (ss_cons s_never ss_nil) ss_nil) (ss_cons (s_ret (i_biT B.ok (b := .tuple) rfl (by rfl) Z.f_tuple boot_tuple (a_cons (i_comp B.ok rfl (it_e (i_v (i := 0) (by rfl) (by first | exact .inl rfl | exact .inr (.inl rfl) | exact .inr (.inr rfl)))) (blkOk_by (N := ["numbers", "number"]) (sc := (defScope (top 29))) (own := [("number", 1)]) (by decide +kernel)) (fun _ _ _ _ _ => (g_n (i := 1) (cok_blk B.ok) rfl (by first | exact .inl rfl | exact .inr rfl) (by first | exact .inl rfl | exact .inr rfl))) (fun _ _ _ _ _ => (i_biT (cok_blk B.ok) (b := .int) rfl (by rfl) Z.f_int boot_int (a_cons (i_cmp (cok_blk B.ok) (i_v (i := 1) (by rfl) (by first | exact .inl rfl | exact .inr (.inl rfl) | exact .inr (.inr rfl))) i_int) a_nil)))) a_nil))) ss_nil))
theorem ok_choice_number (Z : Zs K mg) (B : BodyOk (BodyX P w K mg base ["choice", "found", "sign"] "choice_number" (defScope (top 30)) f cdv A outer s H) Ds 1000000 k) :
    PSs (BodyX P w K mg base ["choice", "found", "sign"] "choice_number" (defScope (top 30)) f cdv A outer s H) (defBody (top 30)) (tSs K (run (Fns Ds) 1000000 k) 1000000 b_choice_number) :=
  (ss_cons (s_set (i := 1) B.ok rfl (by first | exact .inl rfl | exact .inr rfl) i_int rfl (by first | exact .inl rfl | exact .inr rfl)) (ss_cons (s_for B.ok PassesOwn.never (it_e (i_v (i := 0) (by rfl) (by first | exact .inl rfl | exact .inr (.inl rfl) | exact .inr (.inr rfl)))) (g_n (i := 2) B.ok rfl (by first | exact .inl rfl | exact .inr rfl) (by first | exact .inl rfl | exact .inr rfl)) (ss_cons (s_set (i := 1) B.ok rfl (by first | exact .inl rfl | exact .inr rfl) (i_op (i_op i_int (i_v (i := 1) (by rfl) (by first | exact .inl rfl | exact .inr (.inl rfl) | exact .inr (.inr rfl)))) (i_v (i := 2) (by rfl) (by first | exact .inl rfl | exact .inr (.inl rfl) | exact .inr (.inr rfl)))) rfl (by first | exact .inl rfl | exact .inr rfl)) ss_nil)) (ss_cons (s_ret (i_v (i := 1) (by rfl) (by first | exact .inl rfl | exact .inr (.inl rfl) | exact .inr (.inr rfl)))) ss_nil)))
theorem ok_as_polynomial (Z : Zs K mg) (B : BodyOk (BodyX P w K mg base ["value", "powers", "share"] "as_polynomial" (defScope (top 31)) f cdv A outer s H) Ds 1000000 k) :
    PSs (BodyX P w K mg base ["value", "powers", "share"] "as_polynomial" (defScope (top 31)) f cdv A outer s H) (defBody (top 31)) (tSs K (run (Fns Ds) 1000000 k) 1000000 b_as_polynomial) :=
  (ss_cons (s_ret (i_biT B.ok (b := .tuple) rfl (by rfl) Z.f_tuple boot_tuple (a_cons (i_comp B.ok rfl (it_e (i_v (i := 0) (by rfl) (by first | exact .inl rfl | exact .inr (.inl rfl) | exact .inr (.inr rfl)))) (blkOk_by (N := ["value", "powers", "share"]) (sc := (defScope (top 31))) (own := [("powers", 1), ("share", 2)]) (by decide +kernel)) (fun _ _ _ _ _ => (g_t (cok_blk B.ok) (.cons (i := 1) rfl (by first | exact .inl rfl | exact .inr rfl) (by first | exact .inl rfl | exact .inr rfl) (.cons (i := 2) rfl (by first | exact .inl rfl | exact .inr rfl) (by first | exact .inl rfl | exact .inr rfl) .nil)))) (fun _ _ _ _ _ => (i_tup (a_cons (i_biT (cok_blk B.ok) (b := .tuple) rfl (by rfl) Z.f_tuple boot_tuple (a_cons (i_v (i := 1) (by rfl) (by first | exact .inl rfl | exact .inr (.inl rfl) | exact .inr (.inr rfl))) a_nil)) (a_cons (i_v (i := 2) (by rfl) (by first | exact .inl rfl | exact .inr (.inl rfl) | exact .inr (.inr rfl))) a_nil))))) a_nil))) ss_nil)
theorem ok_gathered (Z : Zs K mg) (B : BodyOk (BodyX P w K mg base ["terms", "found", "powers", "share"] "gathered" (defScope (top 32)) f cdv A outer s H) Ds 1000000 k) :
    PSs (BodyX P w K mg base ["terms", "found", "powers", "share"] "gathered" (defScope (top 32)) f cdv A outer s H) (defBody (top 32)) (tSs K (run (Fns Ds) 1000000 k) 1000000 b_gathered) :=
  (ss_cons (s_set (i := 1) B.ok rfl (by first | exact .inl rfl | exact .inr rfl) i_dct0 rfl (by first | exact .inl rfl | exact .inr rfl)) (ss_cons (s_for B.ok PassesOwn.never (it_e (i_v (i := 0) (by rfl) (by first | exact .inl rfl | exact .inr (.inl rfl) | exact .inr (.inr rfl)))) (g_t B.ok (.cons (i := 2) rfl (by first | exact .inl rfl | exact .inr rfl) (by first | exact .inl rfl | exact .inr rfl) (.cons (i := 3) rfl (by first | exact .inl rfl | exact .inr rfl) (by first | exact .inl rfl | exact .inr rfl) .nil))) (ss_cons (s_put (i_v (i := 1) (by rfl) (by first | exact .inl rfl | exact .inr (.inl rfl) | exact .inr (.inr rfl))) (i_v (i := 2) (by rfl) (by first | exact .inl rfl | exact .inr (.inl rfl) | exact .inr (.inr rfl))) (i_op i_bad (i_v (i := 3) (by rfl) (by first | exact .inl rfl | exact .inr (.inl rfl) | exact .inr (.inr rfl))))) ss_nil)) (ss_cons (s_ret (i_biT B.ok (b := .tuple) rfl (by rfl) Z.f_tuple boot_tuple (a_cons (i_comp B.ok rfl (it_e (i_biB B.ok (b := .sorted) rfl (by rfl) Z.f_sorted boot_sorted (a_cons (i_v (i := 1) (by rfl) (by first | exact .inl rfl | exact .inr (.inl rfl) | exact .inr (.inr rfl))) a_nil))) (blkOk_by (N := ["terms", "found", "powers", "share"]) (sc := (defScope (top 32))) (own := [("powers", 2)]) (by decide +kernel)) (fun _ _ _ _ _ => (g_n (i := 2) (cok_blk B.ok) rfl (by first | exact .inl rfl | exact .inr rfl) (by first | exact .inl rfl | exact .inr rfl))) (fun _ _ _ _ _ => (i_tup (a_cons (i_v (i := 2) (by rfl) (by first | exact .inl rfl | exact .inr (.inl rfl) | exact .inr (.inr rfl))) (a_cons (i_ix (i_v (i := 1) (by rfl) (by first | exact .inl rfl | exact .inr (.inl rfl) | exact .inr (.inr rfl))) (i_v (i := 2) (by rfl) (by first | exact .inl rfl | exact .inr (.inl rfl) | exact .inr (.inr rfl)))) a_nil))))) a_nil))) ss_nil)))
theorem ok_multiplied (Z : Zs K mg) (B : BodyOk (BodyX P w K mg base ["one", "other", "found", "powers", "share", "more", "by", "mine", "its"] "multiplied" (defScope (top 33)) f cdv A outer s H) Ds 1000000 k) :
    PSs (BodyX P w K mg base ["one", "other", "found", "powers", "share", "more", "by", "mine", "its"] "multiplied" (defScope (top 33)) f cdv A outer s H) (defBody (top 33)) (tSs K (run (Fns Ds) 1000000 k) 1000000 b_multiplied) :=
  (ss_cons (s_set (i := 2) B.ok rfl (by first | exact .inl rfl | exact .inr rfl) (i_new a_nil) rfl (by first | exact .inl rfl | exact .inr rfl)) (ss_cons (s_for B.ok PassesOwn.never (it_e (i_v (i := 0) (by rfl) (by first | exact .inl rfl | exact .inr (.inl rfl) | exact .inr (.inr rfl)))) (g_t B.ok (.cons (i := 3) rfl (by first | exact .inl rfl | exact .inr rfl) (by first | exact .inl rfl | exact .inr rfl) (.cons (i := 4) rfl (by first | exact .inl rfl | exact .inr rfl) (by first | exact .inl rfl | exact .inr rfl) .nil))) (ss_cons (s_ex (i_me mf_extend (i_v (i := 2) (by rfl) (by first | exact .inl rfl | exact .inr (.inl rfl) | exact .inr (.inr rfl))) (a_cons (i_comp B.ok rfl (it_e (i_v (i := 1) (by rfl) (by first | exact .inl rfl | exact .inr (.inl rfl) | exact .inr (.inr rfl)))) (blkOk_by (N := ["one", "other", "found", "powers", "share", "more", "by", "mine", "its"]) (sc := (defScope (top 33))) (own := [("more", 5), ("by", 6)]) (by decide +kernel)) (fun _ _ _ _ _ => (g_t (cok_blk B.ok) (.cons (i := 5) rfl (by first | exact .inl rfl | exact .inr rfl) (by first | exact .inl rfl | exact .inr rfl) (.cons (i := 6) rfl (by first | exact .inl rfl | exact .inr rfl) (by first | exact .inl rfl | exact .inr rfl) .nil)))) (fun _ _ _ _ _ => (i_tup (a_cons (i_biT (cok_blk B.ok) (b := .tuple) rfl (by rfl) Z.f_tuple boot_tuple (a_cons (i_comp (cok_blk B.ok) rfl (it_zipG (by rfl) Z.f_zip (i_v (i := 3) (by rfl) (by first | exact .inl rfl | exact .inr (.inl rfl) | exact .inr (.inr rfl))) (i_v (i := 5) (by rfl) (by first | exact .inl rfl | exact .inr (.inl rfl) | exact .inr (.inr rfl)))) (blkOk_by (N := ["one", "other", "found", "powers", "share", "more", "by", "mine", "its"]) (sc := (relS _ (defScope (top 33)))) (own := [("mine", 7), ("its", 8)]) (by decide +kernel)) (fun _ _ _ _ _ => (g_t (cok_blk (cok_blk B.ok)) (.cons (i := 7) rfl (by first | exact .inl rfl | exact .inr rfl) (by first | exact .inl rfl | exact .inr rfl) (.cons (i := 8) rfl (by first | exact .inl rfl | exact .inr rfl) (by first | exact .inl rfl | exact .inr rfl) .nil)))) (fun _ _ _ _ _ => (i_op (i_v (i := 7) (by rfl) (by first | exact .inl rfl | exact .inr (.inl rfl) | exact .inr (.inr rfl))) (i_v (i := 8) (by rfl) (by first | exact .inl rfl | exact .inr (.inl rfl) | exact .inr (.inr rfl)))))) a_nil)) (a_cons (i_op (i_v (i := 4) (by rfl) (by first | exact .inl rfl | exact .inr (.inl rfl) | exact .inr (.inr rfl))) (i_v (i := 6) (by rfl) (by first | exact .inl rfl | exact .inr (.inl rfl) | exact .inr (.inr rfl)))) a_nil))))) a_nil))) ss_nil)) (ss_cons (s_ret (i_call B.ok (by rfl) (B.call 15 d_gathered rfl rfl) (a_cons (i_v (i := 2) (by rfl) (by first | exact .inl rfl | exact .inr (.inl rfl) | exact .inr (.inr rfl))) a_nil))) ss_nil)))
theorem ok_so_often (Z : Zs K mg) (B : BodyOk (BodyX P w K mg base ["base", "power", "found", "_"] "so_often" (defScope (top 34)) f cdv A outer s H) Ds 1000000 k) :
    PSs (BodyX P w K mg base ["base", "power", "found", "_"] "so_often" (defScope (top 34)) f cdv A outer s H) (defBody (top 34)) (tSs K (run (Fns Ds) 1000000 k) 1000000 b_so_often) :=
  (ss_cons (s_set (i := 2) B.ok rfl (by first | exact .inl rfl | exact .inr rfl) i_int rfl (by first | exact .inl rfl | exact .inr rfl)) (ss_cons (s_for B.ok PassesOwn.never (it_rng1 (by rfl) Z.f_range (i_v (i := 1) (by rfl) (by first | exact .inl rfl | exact .inr (.inl rfl) | exact .inr (.inr rfl)))) (g_n (i := 3) B.ok rfl (by first | exact .inl rfl | exact .inr rfl) (by first | exact .inl rfl | exact .inr rfl)) (ss_cons (s_set (i := 2) B.ok rfl (by first | exact .inl rfl | exact .inr rfl) (i_op (i_v (i := 2) (by rfl) (by first | exact .inl rfl | exact .inr (.inl rfl) | exact .inr (.inr rfl))) (i_v (i := 0) (by rfl) (by first | exact .inl rfl | exact .inr (.inl rfl) | exact .inr (.inr rfl)))) rfl (by first | exact .inl rfl | exact .inr rfl)) ss_nil)) (ss_cons (s_ret (i_v (i := 2) (by rfl) (by first | exact .inl rfl | exact .inr (.inl rfl) | exact .inr (.inr rfl)))) ss_nil)))
theorem ok_worth_of (Z : Zs K mg) (B : BodyOk (BodyX P w K mg base ["polynomial", "numbers", "total", "powers", "share", "worth", "number", "power"] "worth_of" (defScope (top 35)) f cdv A outer s H) Ds 1000000 k) :
    PSs (BodyX P w K mg base ["polynomial", "numbers", "total", "powers", "share", "worth", "number", "power"] "worth_of" (defScope (top 35)) f cdv A outer s H) (defBody (top 35)) (tSs K (run (Fns Ds) 1000000 k) 1000000 b_worth_of) :=
  (ss_cons (s_set (i := 2) B.ok rfl (by first | exact .inl rfl | exact .inr rfl) i_int rfl (by first | exact .inl rfl | exact .inr rfl)) (ss_cons (s_for B.ok PassesOwn.never (it_e (i_v (i := 0) (by rfl) (by first | exact .inl rfl | exact .inr (.inl rfl) | exact .inr (.inr rfl)))) (g_t B.ok (.cons (i := 3) rfl (by first | exact .inl rfl | exact .inr rfl) (by first | exact .inl rfl | exact .inr rfl) (.cons (i := 4) rfl (by first | exact .inl rfl | exact .inr rfl) (by first | exact .inl rfl | exact .inr rfl) .nil))) (ss_cons (s_set (i := 5) B.ok rfl (by first | exact .inl rfl | exact .inr rfl) (i_v (i := 4) (by rfl) (by first | exact .inl rfl | exact .inr (.inl rfl) | exact .inr (.inr rfl))) rfl (by first | exact .inl rfl | exact .inr rfl)) (ss_cons (s_for B.ok PassesOwn.never (it_zipG (by rfl) Z.f_zip (i_v (i := 1) (by rfl) (by first | exact .inl rfl | exact .inr (.inl rfl) | exact .inr (.inr rfl))) (i_v (i := 3) (by rfl) (by first | exact .inl rfl | exact .inr (.inl rfl) | exact .inr (.inr rfl)))) (g_t B.ok (.cons (i := 6) rfl (by first | exact .inl rfl | exact .inr rfl) (by first | exact .inl rfl | exact .inr rfl) (.cons (i := 7) rfl (by first | exact .inl rfl | exact .inr rfl) (by first | exact .inl rfl | exact .inr rfl) .nil))) (ss_cons (s_set (i := 5) B.ok rfl (by first | exact .inl rfl | exact .inr rfl) (i_op (i_v (i := 5) (by rfl) (by first | exact .inl rfl | exact .inr (.inl rfl) | exact .inr (.inr rfl))) (i_call B.ok (by rfl) (B.call 17 d_so_often rfl rfl) (a_cons (i_v (i := 6) (by rfl) (by first | exact .inl rfl | exact .inr (.inl rfl) | exact .inr (.inr rfl))) (a_cons (i_v (i := 7) (by rfl) (by first | exact .inl rfl | exact .inr (.inl rfl) | exact .inr (.inr rfl))) a_nil)))) rfl (by first | exact .inl rfl | exact .inr rfl)) ss_nil)) (ss_cons (s_set (i := 2) B.ok rfl (by first | exact .inl rfl | exact .inr rfl) (i_op (i_v (i := 2) (by rfl) (by first | exact .inl rfl | exact .inr (.inl rfl) | exact .inr (.inr rfl))) (i_v (i := 5) (by rfl) (by first | exact .inl rfl | exact .inr (.inl rfl) | exact .inr (.inr rfl)))) rfl (by first | exact .inl rfl | exact .inr rfl)) ss_nil)))) (ss_cons (s_ret (i_v (i := 2) (by rfl) (by first | exact .inl rfl | exact .inr (.inl rfl) | exact .inr (.inr rfl)))) ss_nil)))
theorem ok_most_power (Z : Zs K mg) (B : BodyOk (BodyX P w K mg base ["polynomial", "place", "powers", "share"] "most_power" (defScope (top 36)) f cdv A outer s H) Ds 1000000 k) :
    PSs (BodyX P w K mg base ["polynomial", "place", "powers", "share"] "most_power" (defScope (top 36)) f cdv A outer s H) (defBody (top 36)) (tSs K (run (Fns Ds) 1000000 k) 1000000 b_most_power) :=
  (ss_cons (s_ret i_bad) ss_nil)
theorem ok_number_of_item (Z : Zs K mg) (B : BodyOk (BodyX P w K mg base ["item", "sign"] "number_of_item" (defScope (top 39)) f cdv A outer s H) Ds 1000000 k) :
    PSs (BodyX P w K mg base ["item", "sign"] "number_of_item" (defScope (top 39)) f cdv A outer s H) (defBody (top 39)) (tSs K (run (Fns Ds) 1000000 k) 1000000 b_number_of_item) :=
  (ss_cons (s_if (t_w (w_or (t_cmp B.ok (i_v (i := 0) (by rfl) (by first | exact .inl rfl | exact .inr (.inl rfl) | exact .inr (.inr rfl))) i_non) (w_or (t_not (t_chain B.ok i_int (i_biB B.ok (b := .len) rfl (by rfl) Z.f_len boot_len (a_cons (i_v (i := 0) (by rfl) (by first | exact .inl rfl | exact .inr (.inl rfl) | exact .inr (.inr rfl))) a_nil)) (i_g (by rfl) Z.g_MOST_DIGITS))) (w_or1 (t_not (t_e (i_biB B.ok (b := .all) rfl (by rfl) Z.f_all boot_all (a_cons (i_comp B.ok rfl (it_e (i_v (i := 0) (by rfl) (by first | exact .inl rfl | exact .inr (.inl rfl) | exact .inr (.inr rfl)))) (blkOk_by (N := ["item", "sign"]) (sc := (defScope (top 39))) (own := [("sign", 1)]) (by decide +kernel)) (fun _ _ _ _ _ => (g_n (i := 1) (cok_blk B.ok) rfl (by first | exact .inl rfl | exact .inr rfl) (by first | exact .inl rfl | exact .inr rfl))) (fun _ _ _ _ _ => (i_cmp (cok_blk B.ok) (i_v (i := 1) (by rfl) (by first | exact .inl rfl | exact .inr (.inl rfl) | exact .inr (.inr rfl))) (i_g (by rfl) Z.g_DIGITS)))) a_nil)))))))) (ss_cons (s_ret i_non) ss_nil) ss_nil) (ss_cons (s_ret (i_ite (t_w (w_and (t_cmp B.ok (i_ix (i_v (i := 0) (by rfl) (by first | exact .inl rfl | exact .inr (.inl rfl) | exact .inr (.inr rfl))) i_int) i_str) (w_and1 (t_cmp B.ok (i_v (i := 0) (by rfl) (by first | exact .inl rfl | exact .inr (.inl rfl) | exact .inr (.inr rfl))) i_str)))) i_non (i_biT B.ok (b := .int) rfl (by rfl) Z.f_int boot_int (a_cons (i_v (i := 0) (by rfl) (by first | exact .inl rfl | exact .inr (.inl rfl) | exact .inr (.inr rfl))) a_nil)))) ss_nil))
theorem ok_are_rows (Z : Zs K mg) (B : BodyOk (BodyX P w K mg base ["many", "value", "told", "choice", "row"] "are_rows" (defScope (top 47)) f cdv A outer s H) Ds 1000000 k) :
    PSs (BodyX P w K mg base ["many", "value", "told", "choice", "row"] "are_rows" (defScope (top 47)) f cdv A outer s H) (defBody (top 47)) (tSs K (run (Fns Ds) 1000000 k) 1000000 b_are_rows) :=
  (ss_cons (s_set (i := 2) B.ok rfl (by first | exact .inl rfl | exact .inr rfl) (i_call B.ok (by rfl) (B.call 11 d_choices rfl rfl) (a_cons (i_v (i := 0) (by rfl) (by first | exact .inl rfl | exact .inr (.inl rfl) | exact .inr (.inr rfl))) a_nil)) rfl (by first | exact .inl rfl | exact .inr rfl)) (ss_cons (s_if (t_w (w_or (t_not (t_e (i_isT (by decide) (by rfl) Z.f_isinstance (i_v (i := 1) (by rfl) (by first | exact .inl rfl | exact .inr (.inl rfl) | exact .inr (.inr rfl))) (tys_cons (ty_ok (t := .list) (by rfl) Z.f_list boot_list) (tys_cons (ty_ok (t := .tuple) (by rfl) Z.f_tuple boot_tuple) tys_nil))))) (w_or1 (t_cmp B.ok (i_biB B.ok (b := .len) rfl (by rfl) Z.f_len boot_len (a_cons (i_v (i := 1) (by rfl) (by first | exact .inl rfl | exact .inr (.inl rfl) | exact .inr (.inr rfl))) a_nil)) (i_biB B.ok (b := .len) rfl (by rfl) Z.f_len boot_len (a_cons (i_v (i := 2) (by rfl) (by first | exact .inl rfl | exact .inr (.inl rfl) | exact .inr (.inr rfl))) a_nil)))))) (ss_cons (s_ret i_bl) ss_nil) ss_nil) (ss_cons (s_ret (i_biB B.ok (b := .all) rfl (by rfl) Z.f_all boot_all (a_cons (i_comp B.ok rfl (it_zipG (by rfl) Z.f_zip (i_v (i := 2) (by rfl) (by first | exact .inl rfl | exact .inr (.inl rfl) | exact .inr (.inr rfl))) (i_v (i := 1) (by rfl) (by first | exact .inl rfl | exact .inr (.inl rfl) | exact .inr (.inr rfl)))) (blkOk_by (N := ["many", "value", "told", "choice", "row"]) (sc := (defScope (top 47))) (own := [("choice", 3), ("row", 4)]) (by decide +kernel)) (fun _ _ _ _ _ => (g_t (cok_blk B.ok) (.cons (i := 3) rfl (by first | exact .inl rfl | exact .inr rfl) (by first | exact .inl rfl | exact .inr rfl) (.cons (i := 4) rfl (by first | exact .inl rfl | exact .inr rfl) (by first | exact .inl rfl | exact .inr rfl) .nil)))) (fun _ _ _ _ _ => (i_call (cok_blk B.ok) (by rfl) (call_blk (B.call 10 d_is_polynomial rfl rfl)) (a_cons (i_v (i := 0) (by rfl) (by first | exact .inl rfl | exact .inr (.inl rfl) | exact .inr (.inr rfl))) (a_cons (i_v (i := 3) (by rfl) (by first | exact .inl rfl | exact .inr (.inl rfl) | exact .inr (.inr rfl))) (a_cons (i_v (i := 4) (by rfl) (by first | exact .inl rfl | exact .inr (.inl rfl) | exact .inr (.inr rfl))) a_nil)))))) a_nil))) ss_nil)))
theorem ok_term_text (Z : Zs K mg) (B : BodyOk (BodyX P w K mg base ["powers", "share", "power"] "term_text" (defScope (top 48)) f cdv A outer s H) Ds 1000000 k) :
    PSs (BodyX P w K mg base ["powers", "share", "power"] "term_text" (defScope (top 48)) f cdv A outer s H) (defBody (top 48)) (tSs K (run (Fns Ds) 1000000 k) 1000000 b_term_text) :=
  (ss_cons (s_ret (i_op (i_op (i_biT B.ok (b := .str) rfl (by rfl) Z.f_str boot_str (a_cons (i_v (i := 1) (by rfl) (by first | exact .inl rfl | exact .inr (.inl rfl) | exact .inr (.inr rfl))) a_nil)) i_str) (i_me mf_join i_str (a_cons (i_comp B.ok rfl (it_e (i_v (i := 0) (by rfl) (by first | exact .inl rfl | exact .inr (.inl rfl) | exact .inr (.inr rfl)))) (blkOk_by (N := ["powers", "share", "power"]) (sc := (defScope (top 48))) (own := [("power", 2)]) (by decide +kernel)) (fun _ _ _ _ _ => (g_n (i := 2) (cok_blk B.ok) rfl (by first | exact .inl rfl | exact .inr rfl) (by first | exact .inl rfl | exact .inr rfl))) (fun _ _ _ _ _ => (i_biT (cok_blk B.ok) (b := .str) rfl (by rfl) Z.f_str boot_str (a_cons (i_v (i := 2) (by rfl) (by first | exact .inl rfl | exact .inr (.inl rfl) | exact .inr (.inr rfl))) a_nil)))) a_nil)))) ss_nil)
theorem ok_row_text (Z : Zs K mg) (B : BodyOk (BodyX P w K mg base ["row", "items", "powers", "share"] "row_text" (defScope (top 49)) f cdv A outer s H) Ds 1000000 k) :
    PSs (BodyX P w K mg base ["row", "items", "powers", "share"] "row_text" (defScope (top 49)) f cdv A outer s H) (defBody (top 49)) (tSs K (run (Fns Ds) 1000000 k) 1000000 b_row_text) :=
  (ss_cons (s_setLc (i := 1) B.ok rfl rfl (sw_true rfl rfl rfl (by decide +kernel)) rfl (it_e (i_v (i := 0) (by rfl) (by first | exact .inl rfl | exact .inr (.inl rfl) | exact .inr (.inr rfl)))) (blkOk_by (N := ["row", "items", "powers", "share"]) (sc := (defScope (top 49))) (own := [("powers", 2), ("share", 3)]) (by decide +kernel)) (fun _ _ _ _ _ => (g_t (cok_blk B.ok) (.cons (i := 2) rfl (by first | exact .inl rfl | exact .inr rfl) (by first | exact .inl rfl | exact .inr rfl) (.cons (i := 3) rfl (by first | exact .inl rfl | exact .inr rfl) (by first | exact .inl rfl | exact .inr rfl) .nil)))) (fun _ _ _ _ _ => (i_call (cok_blk B.ok) (by rfl) (call_blk (B.call 22 d_term_text rfl rfl)) (a_cons (i_v (i := 2) (by rfl) (by first | exact .inl rfl | exact .inr (.inl rfl) | exact .inr (.inr rfl))) (a_cons (i_v (i := 3) (by rfl) (by first | exact .inl rfl | exact .inr (.inl rfl) | exact .inr (.inr rfl))) a_nil))))) (ss_cons (s_ret (i_me mf_join i_str (a_cons (i_ite (t_cmp B.ok (i_v (i := 1) (by rfl) (by first | exact .inl rfl | exact .inr (.inl rfl) | exact .inr (.inr rfl))) (i_lst a_nil)) (i_v (i := 1) (by rfl) (by first | exact .inl rfl | exact .inr (.inl rfl) | exact .inr (.inr rfl))) (i_lst (a_cons (i_g (by rfl) Z.g_NONE) a_nil))) a_nil))) ss_nil))
theorem ok_term_of_item (Z : Zs K mg) (B : BodyOk (BodyX P w K mg base ["item", "choice", "share", "told", "parts", "term", "part"] "term_of_item" (defScope (top 50)) f cdv A outer s H) Ds 1000000 k) :
    PSs (BodyX P w K mg base ["item", "choice", "share", "told", "parts", "term", "part"] "term_of_item" (defScope (top 50)) f cdv A outer s H) (defBody (top 50)) (tSs K (run (Fns Ds) 1000000 k) 1000000 b_term_of_item) :=
  (ss_cons (s_if (t_w (w_or (t_cmp B.ok (i_v (i := 0) (by rfl) (by first | exact .inl rfl | exact .inr (.inl rfl) | exact .inr (.inr rfl))) i_non) (w_or1 (t_cmp B.ok i_bad i_int)))) (ss_cons (s_ret i_non) ss_nil) ss_nil) (ss_cons (s_asg (i_me mf_split (i_v (i := 0) (by rfl) (by first | exact .inl rfl | exact .inr (.inl rfl) | exact .inr (.inr rfl))) (a_cons (i_g (by rfl) Z.g_COLON) a_nil)) (g_t B.ok (.cons (i := 2) rfl (by first | exact .inl rfl | exact .inr rfl) (by first | exact .inl rfl | exact .inr rfl) (.cons (i := 3) rfl (by first | exact .inl rfl | exact .inr rfl) (by first | exact .inl rfl | exact .inr rfl) .nil)))) (ss_cons (s_set (i := 4) B.ok rfl (by first | exact .inl rfl | exact .inr rfl) (i_ite (t_cmp B.ok (i_v (i := 3) (by rfl) (by first | exact .inl rfl | exact .inr (.inl rfl) | exact .inr (.inr rfl))) i_str) (i_me mf_split (i_v (i := 3) (by rfl) (by first | exact .inl rfl | exact .inr (.inl rfl) | exact .inr (.inr rfl))) (a_cons (i_g (by rfl) Z.g_DOT) a_nil)) (i_lst a_nil)) rfl (by first | exact .inl rfl | exact .inr rfl)) (ss_cons (s_set (i := 5) B.ok rfl (by first | exact .inl rfl | exact .inr rfl) (i_tup (a_cons (i_biT B.ok (b := .tuple) rfl (by rfl) Z.f_tuple boot_tuple (a_cons (i_comp B.ok rfl (it_e (i_v (i := 4) (by rfl) (by first | exact .inl rfl | exact .inr (.inl rfl) | exact .inr (.inr rfl)))) (blkOk_by (N := ["item", "choice", "share", "told", "parts", "term", "part"]) (sc := (defScope (top 50))) (own := [("part", 6)]) (by decide +kernel)) (fun _ _ _ _ _ => (g_n (i := 6) (cok_blk B.ok) rfl (by first | exact .inl rfl | exact .inr rfl) (by first | exact .inl rfl | exact .inr rfl))) (fun _ _ _ _ _ => (i_call (cok_blk B.ok) (by rfl) (call_blk (B.call 20 d_number_of_item rfl rfl)) (a_cons (i_v (i := 6) (by rfl) (by first | exact .inl rfl | exact .inr (.inl rfl) | exact .inr (.inr rfl))) a_nil)))) a_nil)) (a_cons (i_call B.ok (by rfl) (B.call 20 d_number_of_item rfl rfl) (a_cons (i_v (i := 2) (by rfl) (by first | exact .inl rfl | exact .inr (.inl rfl) | exact .inr (.inr rfl))) a_nil)) a_nil))) rfl (by first | exact .inl rfl | exact .inr rfl)) (ss_cons (s_ret (i_ite (t_e (i_call B.ok (by rfl) (B.call 9 d_is_term rfl rfl) (a_cons (i_v (i := 1) (by rfl) (by first | exact .inl rfl | exact .inr (.inl rfl) | exact .inr (.inr rfl))) (a_cons (i_v (i := 5) (by rfl) (by first | exact .inl rfl | exact .inr (.inl rfl) | exact .inr (.inr rfl))) a_nil)))) (i_v (i := 5) (by rfl) (by first | exact .inl rfl | exact .inr (.inl rfl) | exact .inr (.inr rfl))) i_non)) ss_nil)))))
theorem ok_take_term (Z : Zs K mg) (B : BodyOk (BodyX P w K mg base ["scan", "choice", "ahead", "term"] "take_term" (defScope (top 51)) f cdv A outer s H) Ds 1000000 k) :
    PSs (BodyX P w K mg base ["scan", "choice", "ahead", "term"] "take_term" (defScope (top 51)) f cdv A outer s H) (defBody (top 51)) (tSs K (run (Fns Ds) 1000000 k) 1000000 b_take_term) :=
  (ss_cons (s_set (i := 3) B.ok rfl (by first | exact .inl rfl | exact .inr rfl) (i_call B.ok (by rfl) (B.call 24 d_term_of_item rfl rfl) (a_cons i_bad (a_cons (i_v (i := 1) (by rfl) (by first | exact .inl rfl | exact .inr (.inl rfl) | exact .inr (.inr rfl))) a_nil))) rfl (by first | exact .inl rfl | exact .inr rfl)) (ss_cons (s_if (t_w (w_or (t_cmp B.ok (i_v (i := 3) (by rfl) (by first | exact .inl rfl | exact .inr (.inl rfl) | exact .inr (.inr rfl))) i_non) (w_or1 (t_w (w_and (t_cmp B.ok (i_v (i := 2) (by rfl) (by first | exact .inl rfl | exact .inr (.inl rfl) | exact .inr (.inr rfl))) (i_lst a_nil)) (w_and1 (t_cmp B.ok (i_ix (i_v (i := 3) (by rfl) (by first | exact .inl rfl | exact .inr (.inl rfl) | exact .inr (.inr rfl))) i_int) (i_ix (i_ix (i_v (i := 2) (by rfl) (by first | exact .inl rfl | exact .inr (.inl rfl) | exact .inr (.inr rfl))) (i_neg i_int)) i_int)))))))) (ss_cons (s_ex i_bad) ss_nil) ss_nil) (ss_cons (s_ex i_bad) (ss_cons (s_ex (i_me mf_append (i_v (i := 2) (by rfl) (by first | exact .inl rfl | exact .inr (.inl rfl) | exact .inr (.inr rfl))) (a_cons (i_v (i := 3) (by rfl) (by first | exact .inl rfl | exact .inr (.inl rfl) | exact .inr (.inr rfl))) a_nil))) ss_nil))))
theorem ok_take_row (Z : Zs K mg) (B : BodyOk (BodyX P w K mg base ["scan", "choice", "found"] "take_row" (defScope (top 52)) f cdv A outer s H) Ds 1000000 k) :
    PSs (BodyX P w K mg base ["scan", "choice", "found"] "take_row" (defScope (top 52)) f cdv A outer s H) (defBody (top 52)) (tSs K (run (Fns Ds) 1000000 k) 1000000 b_take_row) :=
  (ss_cons (s_set (i := 2) B.ok rfl (by first | exact .inl rfl | exact .inr rfl) (i_new a_nil) rfl (by first | exact .inl rfl | exact .inr rfl)) (ss_cons (s_if (t_cmp B.ok i_bad (i_g (by rfl) Z.g_NONE)) (ss_cons (s_ex i_bad) (ss_cons (s_ret (i_frz (i := 2) (by rfl) (by first | exact .inl rfl | exact .inr (.inl rfl) | exact .inr (.inr rfl)))) ss_nil)) ss_nil) (ss_cons (s_ex (i_call B.ok (by rfl) (B.call 25 d_take_term rfl rfl) (a_cons (i_v (i := 0) (by rfl) (by first | exact .inl rfl | exact .inr (.inl rfl) | exact .inr (.inr rfl))) (a_cons (i_v (i := 1) (by rfl) (by first | exact .inl rfl | exact .inr (.inl rfl) | exact .inr (.inr rfl))) (a_cons (i_v (i := 2) (by rfl) (by first | exact .inl rfl | exact .inr (.inl rfl) | exact .inr (.inr rfl))) a_nil))))) (ss_cons (s_wh PassesOwn.never (t_w (w_and (t_not (t_e i_bad)) (w_and1 (t_cmp B.ok i_bad (i_g (by rfl) Z.g_NEXT))))) (ss_cons (s_ex (i_call B.ok (by rfl) (B.call 25 d_take_term rfl rfl) (a_cons (i_v (i := 0) (by rfl) (by first | exact .inl rfl | exact .inr (.inl rfl) | exact .inr (.inr rfl))) (a_cons (i_v (i := 1) (by rfl) (by first | exact .inl rfl | exact .inr (.inl rfl) | exact .inr (.inr rfl))) (a_cons (i_v (i := 2) (by rfl) (by first | exact .inl rfl | exact .inr (.inl rfl) | exact .inr (.inr rfl))) a_nil))))) ss_nil)) (ss_cons (s_ret (i_frz (i := 2) (by rfl) (by first | exact .inl rfl | exact .inr (.inl rfl) | exact .inr (.inr rfl)))) ss_nil)))))
theorem ok_take_many (Z : Zs K mg) (B : BodyOk (BodyX P w K mg base ["scan", "many"] "take_many" (defScope (top 53)) f cdv A outer s H) Ds 1000000 k) :
    PSs (BodyX P w K mg base ["scan", "many"] "take_many" (defScope (top 53)) f cdv A outer s H) (defBody (top 53)) (tSs K (run (Fns Ds) 1000000 k) 1000000 b_take_many) :=
  (ss_cons (s_set (i := 1) B.ok rfl (by first | exact .inl rfl | exact .inr rfl) (i_call B.ok (by rfl) (B.call 20 d_number_of_item rfl rfl) (a_cons i_bad a_nil)) rfl (by first | exact .inl rfl | exact .inr rfl)) (ss_cons (s_if (t_not (t_e (i_call B.ok (by rfl) (B.call 2 d_is_within rfl rfl) (a_cons (i_v (i := 1) (by rfl) (by first | exact .inl rfl | exact .inr (.inl rfl) | exact .inr (.inr rfl))) (a_cons i_int (a_cons i_int a_nil)))))) (ss_cons (s_ex i_bad) ss_nil) ss_nil) (ss_cons (s_ex i_bad) (ss_cons (s_if (t_cmp B.ok i_bad (i_g (by rfl) Z.g_COLON)) (ss_cons (s_ex i_bad) ss_nil) ss_nil) (ss_cons (s_ex i_bad) (ss_cons (s_ret (i_v (i := 1) (by rfl) (by first | exact .inl rfl | exact .inr (.inl rfl) | exact .inr (.inr rfl)))) ss_nil))))))
theorem ok_need_few (Z : Zs K mg) (B : BodyOk (BodyX P w K mg base ["products", "powers"] "need_few" (defScope (top 54)) f cdv A outer s H) Ds 1000000 k) :
    PSs (BodyX P w K mg base ["products", "powers"] "need_few" (defScope (top 54)) f cdv A outer s H) (defBody (top 54)) (tSs K (run (Fns Ds) 1000000 k) 1000000 b_need_few) :=
  (ss_cons (s_if (t_cmp B.ok i_bad (i_g (by rfl) Z.g_MOST_PRODUCTS)) (ss_cons s_never ss_nil) ss_nil) (ss_cons (s_if (t_cmp B.ok i_bad (i_g (by rfl) Z.g_MOST_POWER)) (ss_cons s_never ss_nil) ss_nil) ss_nil))
theorem ok_Table_init (Z : Zs K mg) (B : BodyOk (BodyX P w K mg base ["self", "many", "rows", "row"] "Table.__init__" (defScope (cst 55 0)) f cdv A outer s H) Ds 1000000 k) :
    PSs (BodyX P w K mg base ["self", "many", "rows", "row"] "Table.__init__" (defScope (cst 55 0)) f cdv A outer s H) (defBody (cst 55 0)) (tSs K (run (Fns Ds) 1000000 k) 1000000 b_Table_init) :=
  (ss_cons (s_ex (i_call B.ok (by rfl) (B.call 4 d_need_many rfl rfl) (a_cons (i_v (i := 1) (by rfl) (by first | exact .inl rfl | exact .inr (.inl rfl) | exact .inr (.inr rfl))) a_nil))) (ss_cons (s_if (t_not (t_e (i_call B.ok (by rfl) (B.call 21 d_are_rows rfl rfl) (a_cons (i_v (i := 1) (by rfl) (by first | exact .inl rfl | exact .inr (.inl rfl) | exact .inr (.inr rfl))) (a_cons (i_v (i := 2) (by rfl) (by first | exact .inl rfl | exact .inr (.inl rfl) | exact .inr (.inr rfl))) a_nil))))) (ss_cons s_never ss_nil) ss_nil) (ss_cons (s_setf Z.c_Table Z.n_Table_many (i_v (i := 0) (by rfl) (by first | exact .inl rfl | exact .inr (.inl rfl) | exact .inr (.inr rfl))) (i_v (i := 1) (by rfl) (by first | exact .inl rfl | exact .inr (.inl rfl) | exact .inr (.inr rfl)))) (ss_cons (s_setf Z.c_Table Z.n_Table_rows (i_v (i := 0) (by rfl) (by first | exact .inl rfl | exact .inr (.inl rfl) | exact .inr (.inr rfl))) (i_biT B.ok (b := .tuple) rfl (by rfl) Z.f_tuple boot_tuple (a_cons (i_comp B.ok rfl (it_e (i_v (i := 2) (by rfl) (by first | exact .inl rfl | exact .inr (.inl rfl) | exact .inr (.inr rfl)))) (blkOk_by (N := ["self", "many", "rows", "row"]) (sc := (defScope (cst 55 0))) (own := [("row", 3)]) (by decide +kernel)) (fun _ _ _ _ _ => (g_n (i := 3) (cok_blk B.ok) rfl (by first | exact .inl rfl | exact .inr rfl) (by first | exact .inl rfl | exact .inr rfl))) (fun _ _ _ _ _ => (i_call (cok_blk B.ok) (by rfl) (call_blk (B.call 14 d_as_polynomial rfl rfl)) (a_cons (i_v (i := 3) (by rfl) (by first | exact .inl rfl | exact .inr (.inl rfl) | exact .inr (.inr rfl))) a_nil)))) a_nil))) ss_nil))))
theorem ok_Table_at (Z : Zs K mg) (B : BodyOk (BodyX P w K mg base ["self", "numbers"] "Table.at" (defScope (cst 55 2)) f cdv A outer s H) Ds 1000000 k) :
    PSs (BodyX P w K mg base ["self", "numbers"] "Table.at" (defScope (cst 55 2)) f cdv A outer s H) (defBody (cst 55 2)) (tSs K (run (Fns Ds) 1000000 k) 1000000 b_Table_at) :=
  (ss_cons (s_ex (i_call B.ok (by rfl) (B.call 6 d_need_numbers rfl rfl) (a_cons (i_v (i := 1) (by rfl) (by first | exact .inl rfl | exact .inr (.inl rfl) | exact .inr (.inr rfl))) (a_cons i_str (a_cons (i_fld Z.c_Table Z.n_Table_many (i_v (i := 0) (by rfl) (by first | exact .inl rfl | exact .inr (.inl rfl) | exact .inr (.inr rfl)))) a_nil))))) (ss_cons (s_ret (i_call B.ok (by rfl) (B.call 18 d_worth_of rfl rfl) (a_cons (i_ix (i_fld Z.c_Table Z.n_Table_rows (i_v (i := 0) (by rfl) (by first | exact .inl rfl | exact .inr (.inl rfl) | exact .inr (.inr rfl)))) (i_call B.ok (by rfl) (B.call 13 d_choice_number rfl rfl) (a_cons (i_call B.ok (by rfl) (B.call 12 d_choice_of rfl rfl) (a_cons (i_v (i := 1) (by rfl) (by first | exact .inl rfl | exact .inr (.inl rfl) | exact .inr (.inr rfl))) a_nil)) a_nil))) (a_cons (i_v (i := 1) (by rfl) (by first | exact .inl rfl | exact .inr (.inl rfl) | exact .inr (.inr rfl))) a_nil)))) ss_nil))
theorem ok_Table_need_like (Z : Zs K mg) (B : BodyOk (BodyX P w K mg base ["self", "other"] "Table.need_like" (defScope (cst 55 3)) f cdv A outer s H) Ds 1000000 k) :
    PSs (BodyX P w K mg base ["self", "other"] "Table.need_like" (defScope (cst 55 3)) f cdv A outer s H) (defBody (cst 55 3)) (tSs K (run (Fns Ds) 1000000 k) 1000000 b_Table_need_like) :=
  (ss_cons (s_ex (i_call B.ok (by rfl) (B.call 37 d_need_table rfl rfl) (a_cons (i_v (i := 1) (by rfl) (by first | exact .inl rfl | exact .inr (.inl rfl) | exact .inr (.inr rfl))) (a_cons i_str a_nil)))) (ss_cons (s_if (t_cmp B.ok i_bad (i_fld Z.c_Table Z.n_Table_many (i_v (i := 0) (by rfl) (by first | exact .inl rfl | exact .inr (.inl rfl) | exact .inr (.inr rfl))))) (ss_cons s_never ss_nil) ss_nil) ss_nil))
theorem ok_Table_plus (Z : Zs K mg) (B : BodyOk (BodyX P w K mg base ["self", "other"] "Table.plus" (defScope (cst 55 4)) f cdv A outer s H) Ds 1000000 k) :
    PSs (BodyX P w K mg base ["self", "other"] "Table.plus" (defScope (cst 55 4)) f cdv A outer s H) (defBody (cst 55 4)) (tSs K (run (Fns Ds) 1000000 k) 1000000 b_Table_plus) :=
  (ss_cons (s_ex (i_call B.ok (by rfl) (B.call 0 d__wall rfl rfl) (a_cons i_int a_nil))) ss_nil)
theorem ok_Table_times (Z : Zs K mg) (B : BodyOk (BodyX P w K mg base ["self", "other", "pairs", "both", "powers", "one", "its", "place"] "Table.times" (defScope (cst 55 5)) f cdv A outer s H) Ds 1000000 k) :
    PSs (BodyX P w K mg base ["self", "other", "pairs", "both", "powers", "one", "its", "place"] "Table.times" (defScope (cst 55 5)) f cdv A outer s H) (defBody (cst 55 5)) (tSs K (run (Fns Ds) 1000000 k) 1000000 b_Table_times) :=
  (ss_cons (s_ex (i_mcall B.ok (B.meth 31 d_Table_need_like _ rfl rfl (by decide)) (i_v (i := 0) (by rfl) (by first | exact .inl rfl | exact .inr (.inl rfl) | exact .inr (.inr rfl))) (a_cons (i_v (i := 1) (by rfl) (by first | exact .inl rfl | exact .inr (.inl rfl) | exact .inr (.inr rfl))) a_nil))) (ss_cons (s_set (i := 2) B.ok rfl (by first | exact .inl rfl | exact .inr rfl) (i_biT B.ok (b := .list) rfl (by rfl) Z.f_list boot_list (a_cons i_bad a_nil)) rfl (by first | exact .inl rfl | exact .inr rfl)) (ss_cons (s_setLcI (i := 3) B.ok rfl rfl (sw_true rfl rfl rfl (by decide +kernel)) rfl (it_e (i_v (i := 2) (by rfl) (by first | exact .inl rfl | exact .inr (.inl rfl) | exact .inr (.inr rfl)))) (blkOk_by (N := ["self", "other", "pairs", "both", "powers", "one", "its", "place"]) (sc := (defScope (cst 55 5))) (own := [("one", 5), ("its", 6)]) (by decide +kernel)) (fun _ _ _ _ _ => (g_t (cok_blk B.ok) (.cons (i := 5) rfl (by first | exact .inl rfl | exact .inr rfl) (by first | exact .inl rfl | exact .inr rfl) (.cons (i := 6) rfl (by first | exact .inl rfl | exact .inr rfl) (by first | exact .inl rfl | exact .inr rfl) .nil)))) (fun _ _ _ _ _ => (t_w (w_and (t_cmp (cok_blk B.ok) (i_v (i := 5) (by rfl) (by first | exact .inl rfl | exact .inr (.inl rfl) | exact .inr (.inr rfl))) (i_tup a_nil)) (w_and1 (t_cmp (cok_blk B.ok) (i_v (i := 6) (by rfl) (by first | exact .inl rfl | exact .inr (.inl rfl) | exact .inr (.inr rfl))) (i_tup a_nil)))))) (fun _ _ _ _ _ => (i_tup (a_cons (i_v (i := 5) (by rfl) (by first | exact .inl rfl | exact .inr (.inl rfl) | exact .inr (.inr rfl))) (a_cons (i_v (i := 6) (by rfl) (by first | exact .inl rfl | exact .inr (.inl rfl) | exact .inr (.inr rfl))) a_nil))))) (ss_cons (s_setLc2 (i := 4) B.ok rfl rfl (sw_true rfl rfl rfl (by decide +kernel)) rfl (it_e (i_v (i := 3) (by rfl) (by first | exact .inl rfl | exact .inr (.inl rfl) | exact .inr (.inr rfl)))) (blkOk_by (N := ["self", "other", "pairs", "both", "powers", "one", "its", "place"]) (sc := (defScope (cst 55 5))) (own := [("one", 5), ("its", 6), ("place", 7)]) (by decide +kernel)) (fun _ _ _ _ _ => (g_t (cok_blk B.ok) (.cons (i := 5) rfl (by first | exact .inl rfl | exact .inr rfl) (by first | exact .inl rfl | exact .inr rfl) (.cons (i := 6) rfl (by first | exact .inl rfl | exact .inr rfl) (by first | exact .inl rfl | exact .inr rfl) .nil)))) (fun _ _ _ _ _ => (it_rng1 (by rfl) Z.f_range (i_fld Z.c_Table Z.n_Table_many (i_v (i := 0) (by rfl) (by first | exact .inl rfl | exact .inr (.inl rfl) | exact .inr (.inr rfl)))))) (fun _ _ _ _ _ => (g_n (i := 7) (cok_blk B.ok) rfl (by first | exact .inl rfl | exact .inr rfl) (by first | exact .inl rfl | exact .inr rfl))) (fun _ _ _ _ _ => (i_op (i_call (cok_blk B.ok) (by rfl) (call_blk (B.call 19 d_most_power rfl rfl)) (a_cons (i_v (i := 5) (by rfl) (by first | exact .inl rfl | exact .inr (.inl rfl) | exact .inr (.inr rfl))) (a_cons (i_v (i := 7) (by rfl) (by first | exact .inl rfl | exact .inr (.inl rfl) | exact .inr (.inr rfl))) a_nil))) (i_call (cok_blk B.ok) (by rfl) (call_blk (B.call 19 d_most_power rfl rfl)) (a_cons (i_v (i := 6) (by rfl) (by first | exact .inl rfl | exact .inr (.inl rfl) | exact .inr (.inr rfl))) (a_cons (i_v (i := 7) (by rfl) (by first | exact .inl rfl | exact .inr (.inl rfl) | exact .inr (.inr rfl))) a_nil)))))) (ss_cons (s_ex (i_call B.ok (by rfl) (B.call 28 d_need_few rfl rfl) (a_cons (i_comp B.ok rfl (it_e (i_v (i := 3) (by rfl) (by first | exact .inl rfl | exact .inr (.inl rfl) | exact .inr (.inr rfl)))) (blkOk_by (N := ["self", "other", "pairs", "both", "powers", "one", "its", "place"]) (sc := (defScope (cst 55 5))) (own := [("one", 5), ("its", 6)]) (by decide +kernel)) (fun _ _ _ _ _ => (g_t (cok_blk B.ok) (.cons (i := 5) rfl (by first | exact .inl rfl | exact .inr rfl) (by first | exact .inl rfl | exact .inr rfl) (.cons (i := 6) rfl (by first | exact .inl rfl | exact .inr rfl) (by first | exact .inl rfl | exact .inr rfl) .nil)))) (fun _ _ _ _ _ => (i_op (i_biB (cok_blk B.ok) (b := .len) rfl (by rfl) Z.f_len boot_len (a_cons (i_v (i := 5) (by rfl) (by first | exact .inl rfl | exact .inr (.inl rfl) | exact .inr (.inr rfl))) a_nil)) (i_biB (cok_blk B.ok) (b := .len) rfl (by rfl) Z.f_len boot_len (a_cons (i_v (i := 6) (by rfl) (by first | exact .inl rfl | exact .inr (.inl rfl) | exact .inr (.inr rfl))) a_nil))))) (a_cons (i_v (i := 4) (by rfl) (by first | exact .inl rfl | exact .inr (.inl rfl) | exact .inr (.inr rfl))) a_nil)))) (ss_cons (s_ret (i_mko B.ok (by rfl) (B.make 29 d_Table_init _ rfl rfl rfl) (a_cons (i_fld Z.c_Table Z.n_Table_many (i_v (i := 0) (by rfl) (by first | exact .inl rfl | exact .inr (.inl rfl) | exact .inr (.inr rfl)))) (a_cons (i_comp B.ok rfl (it_e (i_v (i := 2) (by rfl) (by first | exact .inl rfl | exact .inr (.inl rfl) | exact .inr (.inr rfl)))) (blkOk_by (N := ["self", "other", "pairs", "both", "powers", "one", "its", "place"]) (sc := (defScope (cst 55 5))) (own := [("one", 5), ("its", 6)]) (by decide +kernel)) (fun _ _ _ _ _ => (g_t (cok_blk B.ok) (.cons (i := 5) rfl (by first | exact .inl rfl | exact .inr rfl) (by first | exact .inl rfl | exact .inr rfl) (.cons (i := 6) rfl (by first | exact .inl rfl | exact .inr rfl) (by first | exact .inl rfl | exact .inr rfl) .nil)))) (fun _ _ _ _ _ => (i_call (cok_blk B.ok) (by rfl) (call_blk (B.call 16 d_multiplied rfl rfl)) (a_cons (i_v (i := 5) (by rfl) (by first | exact .inl rfl | exact .inr (.inl rfl) | exact .inr (.inr rfl))) (a_cons (i_v (i := 6) (by rfl) (by first | exact .inl rfl | exact .inr (.inl rfl) | exact .inr (.inr rfl))) a_nil))))) a_nil)))) ss_nil))))))
theorem ok_Table_put_in (Z : Zs K mg) (B : BodyOk (BodyX P w K mg base ["self", "tables", "many"] "Table.put_in" (defScope (cst 55 6)) f cdv A outer s H) Ds 1000000 k) :
    PSs (BodyX P w K mg base ["self", "tables", "many"] "Table.put_in" (defScope (cst 55 6)) f cdv A outer s H) (defBody (cst 55 6)) (tSs K (run (Fns Ds) 1000000 k) 1000000 b_Table_put_in) :=
  (ss_cons (s_ex (i_call B.ok (by rfl) (B.call 0 d__wall rfl rfl) (a_cons i_int a_nil))) ss_nil)
theorem ok_Table_eq (Z : Zs K mg) (B : BodyOk (BodyX P w K mg base ["self", "other"] "Table.__eq__" (defScope (cst 55 7)) f cdv A outer s H) Ds 1000000 k) :
    PSs (BodyX P w K mg base ["self", "other"] "Table.__eq__" (defScope (cst 55 7)) f cdv A outer s H) (defBody (cst 55 7)) (tSs K (run (Fns Ds) 1000000 k) 1000000 b_Table_eq) :=
  (ss_cons (s_ret (i_and (i_isC (by rfl) Z.f_isinstance (by rfl) Z.m_Table Z.k_Table (i_v (i := 1) (by rfl) (by first | exact .inl rfl | exact .inr (.inl rfl) | exact .inr (.inr rfl)))) (i_and (i_cmp B.ok (i_fld Z.c_Table Z.n_Table_many (i_v (i := 0) (by rfl) (by first | exact .inl rfl | exact .inr (.inl rfl) | exact .inr (.inr rfl)))) (i_fld Z.c_Table Z.n_Table_many (i_v (i := 1) (by rfl) (by first | exact .inl rfl | exact .inr (.inl rfl) | exact .inr (.inr rfl))))) (i_one (i_cmp B.ok (i_fld Z.c_Table Z.n_Table_rows (i_v (i := 0) (by rfl) (by first | exact .inl rfl | exact .inr (.inl rfl) | exact .inr (.inr rfl)))) (i_fld Z.c_Table Z.n_Table_rows (i_v (i := 1) (by rfl) (by first | exact .inl rfl | exact .inr (.inl rfl) | exact .inr (.inr rfl))))))))) ss_nil)
theorem ok_Table_str (Z : Zs K mg) (B : BodyOk (BodyX P w K mg base ["self", "whole", "row"] "Table.__str__" (defScope (cst 55 8)) f cdv A outer s H) Ds 1000000 k) :
    PSs (BodyX P w K mg base ["self", "whole", "row"] "Table.__str__" (defScope (cst 55 8)) f cdv A outer s H) (defBody (cst 55 8)) (tSs K (run (Fns Ds) 1000000 k) 1000000 b_Table_str) :=
  (ss_cons (s_set (i := 1) B.ok rfl (by first | exact .inl rfl | exact .inr rfl) (i_me mf_join i_str (a_cons (i_comp B.ok rfl (it_e (i_fld Z.c_Table Z.n_Table_rows (i_v (i := 0) (by rfl) (by first | exact .inl rfl | exact .inr (.inl rfl) | exact .inr (.inr rfl))))) (blkOk_by (N := ["self", "whole", "row"]) (sc := (defScope (cst 55 8))) (own := [("row", 2)]) (by decide +kernel)) (fun _ _ _ _ _ => (g_n (i := 2) (cok_blk B.ok) rfl (by first | exact .inl rfl | exact .inr rfl) (by first | exact .inl rfl | exact .inr rfl))) (fun _ _ _ _ _ => (i_call (cok_blk B.ok) (by rfl) (call_blk (B.call 23 d_row_text rfl rfl)) (a_cons (i_v (i := 2) (by rfl) (by first | exact .inl rfl | exact .inr (.inl rfl) | exact .inr (.inr rfl))) a_nil)))) a_nil)) rfl (by first | exact .inl rfl | exact .inr rfl)) (ss_cons (s_ret (i_js (.cons (i_fmt (i_fld Z.c_Table Z.n_Table_many (i_v (i := 0) (by rfl) (by first | exact .inl rfl | exact .inr (.inl rfl) | exact .inr (.inr rfl))))) (.cons i_str (.cons (i_fmt (i_g (by rfl) Z.g_COLON)) (.cons i_str (.cons (i_fmt (i_v (i := 1) (by rfl) (by first | exact .inl rfl | exact .inr (.inl rfl) | exact .inr (.inr rfl)))) .nil))))))) ss_nil))
theorem ok_need_table (Z : Zs K mg) (B : BodyOk (BodyX P w K mg base ["value", "part"] "need_table" (defScope (top 56)) f cdv A outer s H) Ds 1000000 k) :
    PSs (BodyX P w K mg base ["value", "part"] "need_table" (defScope (top 56)) f cdv A outer s H) (defBody (top 56)) (tSs K (run (Fns Ds) 1000000 k) 1000000 b_need_table) :=
  (ss_cons (s_if (t_not (t_e (i_isC (by rfl) Z.f_isinstance (by rfl) Z.m_Table Z.k_Table (i_v (i := 0) (by rfl) (by first | exact .inl rfl | exact .inr (.inl rfl) | exact .inr (.inr rfl)))))) (ss_cons s_never ss_nil) ss_nil) ss_nil)
theorem ok_is_answer (Z : Zs K mg) (B : BodyOk (BodyX P w K mg base ["value", "many"] "is_answer" (defScope (top 61)) f cdv A outer s H) Ds 1000000 k) :
    PSs (BodyX P w K mg base ["value", "many"] "is_answer" (defScope (top 61)) f cdv A outer s H) (defBody (top 61)) (tSs K (run (Fns Ds) 1000000 k) 1000000 b_is_answer) :=
  (ss_cons (s_if (t_w (w_or (t_not (t_e (i_isT (by decide) (by rfl) Z.f_isinstance (i_v (i := 0) (by rfl) (by first | exact .inl rfl | exact .inr (.inl rfl) | exact .inr (.inr rfl))) (tys_cons (ty_ok (t := .list) (by rfl) Z.f_list boot_list) (tys_cons (ty_ok (t := .tuple) (by rfl) Z.f_tuple boot_tuple) tys_nil))))) (w_or1 (t_cmp B.ok (i_biB B.ok (b := .len) rfl (by rfl) Z.f_len boot_len (a_cons (i_v (i := 0) (by rfl) (by first | exact .inl rfl | exact .inr (.inl rfl) | exact .inr (.inr rfl))) a_nil)) i_int)))) (ss_cons (s_ret i_bl) ss_nil) ss_nil) (ss_cons (s_ret (i_and (i_call B.ok (by rfl) (B.call 5 d_are_numbers rfl rfl) (a_cons (i_ix (i_v (i := 0) (by rfl) (by first | exact .inl rfl | exact .inr (.inl rfl) | exact .inr (.inr rfl))) i_int) a_nil)) (i_and (i_cmp B.ok (i_biB B.ok (b := .len) rfl (by rfl) Z.f_len boot_len (a_cons (i_ix (i_v (i := 0) (by rfl) (by first | exact .inl rfl | exact .inr (.inl rfl) | exact .inr (.inr rfl))) i_int) a_nil)) (i_v (i := 1) (by rfl) (by first | exact .inl rfl | exact .inr (.inl rfl) | exact .inr (.inr rfl)))) (i_one (i_call B.ok (by rfl) (B.call 2 d_is_within rfl rfl) (a_cons (i_ix (i_v (i := 0) (by rfl) (by first | exact .inl rfl | exact .inr (.inl rfl) | exact .inr (.inr rfl))) i_int) (a_cons i_int (a_cons i_non a_nil)))))))) ss_nil))
theorem ok_are_answers (Z : Zs K mg) (B : BodyOk (BodyX P w K mg base ["value", "many", "each"] "are_answers" (defScope (top 62)) f cdv A outer s H) Ds 1000000 k) :
    PSs (BodyX P w K mg base ["value", "many", "each"] "are_answers" (defScope (top 62)) f cdv A outer s H) (defBody (top 62)) (tSs K (run (Fns Ds) 1000000 k) 1000000 b_are_answers) :=
  (ss_cons (s_ret (i_and (i_isT (by decide) (by rfl) Z.f_isinstance (i_v (i := 0) (by rfl) (by first | exact .inl rfl | exact .inr (.inl rfl) | exact .inr (.inr rfl))) (tys_cons (ty_ok (t := .list) (by rfl) Z.f_list boot_list) (tys_cons (ty_ok (t := .tuple) (by rfl) Z.f_tuple boot_tuple) tys_nil))) (i_one (i_biB B.ok (b := .all) rfl (by rfl) Z.f_all boot_all (a_cons (i_compP B.ok rfl (it_p (i_v (i := 0) (by rfl) (by first | exact .inl rfl | exact .inr (.inl rfl) | exact .inr (.inr rfl)))) (blkOk_by (N := ["value", "many", "each"]) (sc := (defScope (top 62))) (own := [("each", 2)]) (by decide +kernel)) (fun _ _ _ _ _ => (g_n (i := 2) (cok_blk B.ok) rfl (by first | exact .inl rfl | exact .inr rfl) (by first | exact .inl rfl | exact .inr rfl))) (fun _ _ _ _ _ => (i_call (cok_blk B.ok) (by rfl) (call_blk (B.call 38 d_is_answer rfl rfl)) (a_cons (i_v (i := 2) (by rfl) (by first | exact .inl rfl | exact .inr (.inl rfl) | exact .inr (.inr rfl))) (a_cons (i_v (i := 1) (by rfl) (by first | exact .inl rfl | exact .inr (.inl rfl) | exact .inr (.inr rfl))) a_nil))))) a_nil))))) ss_nil)
theorem ok_raised (Z : Zs K mg) (B : BodyOk (BodyX P w K mg base ["number", "times", "found", "_"] "raised" (defScope (top 63)) f cdv A outer s H) Ds 1000000 k) :
    PSs (BodyX P w K mg base ["number", "times", "found", "_"] "raised" (defScope (top 63)) f cdv A outer s H) (defBody (top 63)) (tSs K (run (Fns Ds) 1000000 k) 1000000 b_raised) :=
  (ss_cons (s_set (i := 2) B.ok rfl (by first | exact .inl rfl | exact .inr rfl) i_int rfl (by first | exact .inl rfl | exact .inr rfl)) (ss_cons (s_for B.ok PassesOwn.never (it_rng1 (by rfl) Z.f_range (i_v (i := 1) (by rfl) (by first | exact .inl rfl | exact .inr (.inl rfl) | exact .inr (.inr rfl)))) (g_n (i := 3) B.ok rfl (by first | exact .inl rfl | exact .inr rfl) (by first | exact .inl rfl | exact .inr rfl)) (ss_cons (s_set (i := 2) B.ok rfl (by first | exact .inl rfl | exact .inr rfl) (i_op (i_v (i := 2) (by rfl) (by first | exact .inl rfl | exact .inr (.inl rfl) | exact .inr (.inr rfl))) (i_v (i := 0) (by rfl) (by first | exact .inl rfl | exact .inr (.inl rfl) | exact .inr (.inr rfl)))) rfl (by first | exact .inl rfl | exact .inr rfl)) ss_nil)) (ss_cons (s_ret (i_v (i := 2) (by rfl) (by first | exact .inl rfl | exact .inr (.inl rfl) | exact .inr (.inr rfl)))) ss_nil)))
theorem ok_steps_of_places (Z : Zs K mg) (B : BodyOk (BodyX P w K mg base ["value"] "steps_of_places" (defScope (top 64)) f cdv A outer s H) Ds 1000000 k) :
    PSs (BodyX P w K mg base ["value"] "steps_of_places" (defScope (top 64)) f cdv A outer s H) (defBody (top 64)) (tSs K (run (Fns Ds) 1000000 k) 1000000 b_steps_of_places) :=
  (ss_cons (s_ret (i_bits (i_v (i := 0) (by rfl) (by first | exact .inl rfl | exact .inr (.inl rfl) | exact .inr (.inr rfl))))) ss_nil)
theorem ok_spread (Z : Zs K mg) (B : BodyOk (BodyX P w K mg base ["choice", "wanted", "found", "spot", "sign"] "spread" (defScope (top 65)) f cdv A outer s H) Ds 1000000 k) :
    PSs (BodyX P w K mg base ["choice", "wanted", "found", "spot", "sign"] "spread" (defScope (top 65)) f cdv A outer s H) (defBody (top 65)) (tSs K (run (Fns Ds) 1000000 k) 1000000 b_spread) :=
  (ss_cons (s_par2 (i := 2) (j := 3) B.ok rfl rfl (by decide) rfl rfl (a_cons (i_new a_nil) (a_cons i_int a_nil)) rfl) (ss_cons (s_for B.ok PassesOwn.never (it_e (i_v (i := 0) (by rfl) (by first | exact .inl rfl | exact .inr (.inl rfl) | exact .inr (.inr rfl)))) (g_n (i := 4) B.ok rfl (by first | exact .inl rfl | exact .inr rfl) (by first | exact .inl rfl | exact .inr rfl)) (ss_cons (s_ex (i_me mf_append (i_v (i := 2) (by rfl) (by first | exact .inl rfl | exact .inr (.inl rfl) | exact .inr (.inr rfl))) (a_cons (i_ite (t_cmp B.ok (i_v (i := 4) (by rfl) (by first | exact .inl rfl | exact .inr (.inl rfl) | exact .inr (.inr rfl))) i_int) (i_ix (i_v (i := 1) (by rfl) (by first | exact .inl rfl | exact .inr (.inl rfl) | exact .inr (.inr rfl))) (i_v (i := 3) (by rfl) (by first | exact .inl rfl | exact .inr (.inl rfl) | exact .inr (.inr rfl)))) i_int) a_nil))) (ss_cons (s_set (i := 3) B.ok rfl (by first | exact .inl rfl | exact .inr rfl) (i_op (i_v (i := 3) (by rfl) (by first | exact .inl rfl | exact .inr (.inl rfl) | exact .inr (.inr rfl))) (i_v (i := 4) (by rfl) (by first | exact .inl rfl | exact .inr (.inl rfl) | exact .inr (.inr rfl)))) rfl (by first | exact .inl rfl | exact .inr rfl)) ss_nil))) (ss_cons (s_ret (i_biT B.ok (b := .tuple) rfl (by rfl) Z.f_tuple boot_tuple (a_cons (i_v (i := 2) (by rfl) (by first | exact .inl rfl | exact .inr (.inl rfl) | exact .inr (.inr rfl))) a_nil))) ss_nil)))
theorem ok_second_numbers (Z : Zs K mg) (B : BodyOk (BodyX P w K mg base ["choice", "value", "wanted", "_"] "second_numbers" (defScope (top 66)) f cdv A outer s H) Ds 1000000 k) :
    PSs (BodyX P w K mg base ["choice", "value", "wanted", "_"] "second_numbers" (defScope (top 66)) f cdv A outer s H) (defBody (top 66)) (tSs K (run (Fns Ds) 1000000 k) 1000000 b_second_numbers) :=
  (ss_cons (s_set (i := 2) B.ok rfl (by first | exact .inl rfl | exact .inr rfl) (i_new (a_cons (i_op (i_v (i := 1) (by rfl) (by first | exact .inl rfl | exact .inr (.inl rfl) | exact .inr (.inr rfl))) i_int) a_nil)) rfl (by first | exact .inl rfl | exact .inr rfl)) (ss_cons (s_for B.ok PassesOwn.never (it_rng2 (by rfl) Z.f_range i_int (i_biB B.ok (b := .sum) rfl (by rfl) Z.f_sum boot_sum (a_cons (i_v (i := 0) (by rfl) (by first | exact .inl rfl | exact .inr (.inl rfl) | exact .inr (.inr rfl))) a_nil))) (g_n (i := 3) B.ok rfl (by first | exact .inl rfl | exact .inr rfl) (by first | exact .inl rfl | exact .inr rfl)) (ss_cons (s_ex (i_me mf_append (i_v (i := 2) (by rfl) (by first | exact .inl rfl | exact .inr (.inl rfl) | exact .inr (.inr rfl))) (a_cons (i_call B.ok (by rfl) (B.call 40 d_raised rfl rfl) (a_cons (i_ix (i_v (i := 2) (by rfl) (by first | exact .inl rfl | exact .inr (.inl rfl) | exact .inr (.inr rfl))) (i_neg i_int)) (a_cons (i_call B.ok (by rfl) (B.call 41 d_steps_of_places rfl rfl) (a_cons (i_v (i := 1) (by rfl) (by first | exact .inl rfl | exact .inr (.inl rfl) | exact .inr (.inr rfl))) a_nil)) a_nil))) a_nil))) ss_nil)) (ss_cons (s_ret (i_call B.ok (by rfl) (B.call 42 d_spread rfl rfl) (a_cons (i_v (i := 0) (by rfl) (by first | exact .inl rfl | exact .inr (.inl rfl) | exact .inr (.inr rfl))) (a_cons (i_v (i := 2) (by rfl) (by first | exact .inl rfl | exact .inr (.inl rfl) | exact .inr (.inr rfl))) a_nil)))) ss_nil)))
theorem ok_next_of (Z : Zs K mg) (B : BodyOk (BodyX P w K mg base ["choice", "values"] "next_of" (defScope (top 67)) f cdv A outer s H) Ds 1000000 k) :
    PSs (BodyX P w K mg base ["choice", "values"] "next_of" (defScope (top 67)) f cdv A outer s H) (defBody (top 67)) (tSs K (run (Fns Ds) 1000000 k) 1000000 b_next_of) :=
  (ss_cons (s_if (t_cmp B.ok (i_v (i := 1) (by rfl) (by first | exact .inl rfl | exact .inr (.inl rfl) | exact .inr (.inr rfl))) (i_lst a_nil)) (ss_cons (s_ret (i_call B.ok (by rfl) (B.call 42 d_spread rfl rfl) (a_cons (i_v (i := 0) (by rfl) (by first | exact .inl rfl | exact .inr (.inl rfl) | exact .inr (.inr rfl))) (a_cons (i_op (i_lst (a_cons (i_g (by rfl) Z.g_FIRST) a_nil)) (i_biB B.ok (b := .len) rfl (by rfl) Z.f_len boot_len (a_cons (i_v (i := 0) (by rfl) (by first | exact .inl rfl | exact .inr (.inl rfl) | exact .inr (.inr rfl))) a_nil))) a_nil)))) ss_nil) ss_nil) (ss_cons (s_if (t_w (w_or (t_cmp B.ok (i_biB B.ok (b := .sum) rfl (by rfl) Z.f_sum boot_sum (a_cons (i_v (i := 0) (by rfl) (by first | exact .inl rfl | exact .inr (.inl rfl) | exact .inr (.inr rfl))) a_nil)) i_int) (w_or (t_cmp B.ok (i_biB B.ok (b := .len) rfl (by rfl) Z.f_len boot_len (a_cons (i_v (i := 1) (by rfl) (by first | exact .inl rfl | exact .inr (.inl rfl) | exact .inr (.inr rfl))) a_nil)) i_int) (w_or1 (t_cmp B.ok (i_ix (i_v (i := 1) (by rfl) (by first | exact .inl rfl | exact .inr (.inl rfl) | exact .inr (.inr rfl))) i_int) i_int))))) (ss_cons (s_ret i_non) ss_nil) ss_nil) (ss_cons (s_ret (i_call B.ok (by rfl) (B.call 43 d_second_numbers rfl rfl) (a_cons (i_v (i := 0) (by rfl) (by first | exact .inl rfl | exact .inr (.inl rfl) | exact .inr (.inr rfl))) (a_cons (i_ix (i_v (i := 1) (by rfl) (by first | exact .inl rfl | exact .inr (.inl rfl) | exact .inr (.inr rfl))) i_int) a_nil)))) ss_nil)))
theorem ok_need_small (Z : Zs K mg) (B : BodyOk (BodyX P w K mg base ["value", "above", "most"] "need_small" (defScope (top 68)) f cdv A outer s H) Ds 1000000 k) :
    PSs (BodyX P w K mg base ["value", "above", "most"] "need_small" (defScope (top 68)) f cdv A outer s H) (defBody (top 68)) (tSs K (run (Fns Ds) 1000000 k) 1000000 b_need_small) :=
  (ss_cons (s_set (i := 2) B.ok rfl (by first | exact .inl rfl | exact .inr rfl) (i_ix (i_g (by rfl) Z.g_MOST_VALUES) (i_v (i := 1) (by rfl) (by first | exact .inl rfl | exact .inr (.inl rfl) | exact .inr (.inr rfl)))) rfl (by first | exact .inl rfl | exact .inr rfl)) (ss_cons (s_if (t_w (w_and (t_cmp B.ok (i_v (i := 2) (by rfl) (by first | exact .inl rfl | exact .inr (.inl rfl) | exact .inr (.inr rfl))) i_non) (w_and1 (t_cmp B.ok (i_v (i := 0) (by rfl) (by first | exact .inl rfl | exact .inr (.inl rfl) | exact .inr (.inr rfl))) (i_v (i := 2) (by rfl) (by first | exact .inl rfl | exact .inr (.inl rfl) | exact .inr (.inr rfl))))))) (ss_cons s_never ss_nil) ss_nil) ss_nil))
theorem ok_sorted_out (Z : Zs K mg) (B : BodyOk (BodyX P w K mg base ["many", "answers", "waiting", "values", "wanted", "numbers", "value", "choice"] "sorted_out" (defScope (top 69)) f cdv A outer s H) Ds 1000000 k) :
    PSs (BodyX P w K mg base ["many", "answers", "waiting", "values", "wanted", "numbers", "value", "choice"] "sorted_out" (defScope (top 69)) f cdv A outer s H) (defBody (top 69)) (tSs K (run (Fns Ds) 1000000 k) 1000000 b_sorted_out) :=
  (ss_cons (s_par2 (i := 2) (j := 3) B.ok rfl rfl (by decide) rfl rfl (a_cons (i_call B.ok (by rfl) (B.call 11 d_choices rfl rfl) (a_cons (i_v (i := 0) (by rfl) (by first | exact .inl rfl | exact .inr (.inl rfl) | exact .inr (.inr rfl))) a_nil)) (a_cons (i_new (a_cons (i_new a_nil) a_nil)) a_nil)) rfl) (ss_cons (s_set (i := 4) B.ok rfl (by first | exact .inl rfl | exact .inr rfl) (i_call B.ok (by rfl) (B.call 44 d_next_of rfl rfl) (a_cons (i_ix (i_v (i := 2) (by rfl) (by first | exact .inl rfl | exact .inr (.inl rfl) | exact .inr (.inr rfl))) i_int) (a_cons (i_lst a_nil) a_nil))) rfl (by first | exact .inl rfl | exact .inr rfl)) (ss_cons (s_forP B.ok PassesOwn.never (it_p (i_v (i := 1) (by rfl) (by first | exact .inl rfl | exact .inr (.inl rfl) | exact .inr (.inr rfl)))) (g_t B.ok (.cons (i := 5) rfl (by first | exact .inl rfl | exact .inr rfl) (by first | exact .inl rfl | exact .inr rfl) (.cons (i := 6) rfl (by first | exact .inl rfl | exact .inr rfl) (by first | exact .inl rfl | exact .inr rfl) .nil))) (ss_cons (s_if (t_w (w_or (t_cmp B.ok (i_v (i := 4) (by rfl) (by first | exact .inl rfl | exact .inr (.inl rfl) | exact .inr (.inr rfl))) i_non) (w_or1 (t_cmp B.ok (i_biT B.ok (b := .tuple) rfl (by rfl) Z.f_tuple boot_tuple (a_cons (i_v (i := 5) (by rfl) (by first | exact .inl rfl | exact .inr (.inl rfl) | exact .inr (.inr rfl))) a_nil)) (i_v (i := 4) (by rfl) (by first | exact .inl rfl | exact .inr (.inl rfl) | exact .inr (.inr rfl))))))) (ss_cons s_never ss_nil) ss_nil) (ss_cons (s_set (i := 7) B.ok rfl (by first | exact .inl rfl | exact .inr rfl) (i_ix (i_v (i := 2) (by rfl) (by first | exact .inl rfl | exact .inr (.inl rfl) | exact .inr (.inr rfl))) (i_op (i_biB B.ok (b := .len) rfl (by rfl) Z.f_len boot_len (a_cons (i_v (i := 3) (by rfl) (by first | exact .inl rfl | exact .inr (.inl rfl) | exact .inr (.inr rfl))) a_nil)) i_int)) rfl (by first | exact .inl rfl | exact .inr rfl)) (ss_cons (s_if (t_cmp B.ok (i_ix (i_v (i := 3) (by rfl) (by first | exact .inl rfl | exact .inr (.inl rfl) | exact .inr (.inr rfl))) (i_neg i_int)) (i_lst a_nil)) (ss_cons (s_ex (i_call B.ok (by rfl) (B.call 45 d_need_small rfl rfl) (a_cons (i_v (i := 6) (by rfl) (by first | exact .inl rfl | exact .inr (.inl rfl) | exact .inr (.inr rfl))) (a_cons (i_biB B.ok (b := .sum) rfl (by rfl) Z.f_sum boot_sum (a_cons (i_v (i := 7) (by rfl) (by first | exact .inl rfl | exact .inr (.inl rfl) | exact .inr (.inr rfl))) a_nil)) a_nil)))) ss_nil) ss_nil) (ss_cons (s_ex (i_me mf_append (i_ix (i_v (i := 3) (by rfl) (by first | exact .inl rfl | exact .inr (.inl rfl) | exact .inr (.inr rfl))) (i_neg i_int)) (a_cons (i_v (i := 6) (by rfl) (by first | exact .inl rfl | exact .inr (.inl rfl) | exact .inr (.inr rfl))) a_nil))) (ss_cons (s_set (i := 4) B.ok rfl (by first | exact .inl rfl | exact .inr rfl) (i_call B.ok (by rfl) (B.call 44 d_next_of rfl rfl) (a_cons (i_v (i := 7) (by rfl) (by first | exact .inl rfl | exact .inr (.inl rfl) | exact .inr (.inr rfl))) (a_cons (i_ix (i_v (i := 3) (by rfl) (by first | exact .inl rfl | exact .inr (.inl rfl) | exact .inr (.inr rfl))) (i_neg i_int)) a_nil))) rfl (by first | exact .inl rfl | exact .inr rfl)) (ss_cons (s_if (t_w (w_and (t_cmp B.ok (i_v (i := 4) (by rfl) (by first | exact .inl rfl | exact .inr (.inl rfl) | exact .inr (.inr rfl))) i_non) (w_and1 (t_cmp B.ok (i_biB B.ok (b := .len) rfl (by rfl) Z.f_len boot_len (a_cons (i_v (i := 3) (by rfl) (by first | exact .inl rfl | exact .inr (.inl rfl) | exact .inr (.inr rfl))) a_nil)) (i_biB B.ok (b := .len) rfl (by rfl) Z.f_len boot_len (a_cons (i_v (i := 2) (by rfl) (by first | exact .inl rfl | exact .inr (.inl rfl) | exact .inr (.inr rfl))) a_nil)))))) (ss_cons (s_set (i := 4) B.ok rfl (by first | exact .inl rfl | exact .inr rfl) (i_call B.ok (by rfl) (B.call 44 d_next_of rfl rfl) (a_cons (i_ix (i_v (i := 2) (by rfl) (by first | exact .inl rfl | exact .inr (.inl rfl) | exact .inr (.inr rfl))) (i_biB B.ok (b := .len) rfl (by rfl) Z.f_len boot_len (a_cons (i_v (i := 3) (by rfl) (by first | exact .inl rfl | exact .inr (.inl rfl) | exact .inr (.inr rfl))) a_nil))) (a_cons (i_lst a_nil) a_nil))) rfl (by first | exact .inl rfl | exact .inr rfl)) (ss_cons (s_ex (i_me mf_append (i_v (i := 3) (by rfl) (by first | exact .inl rfl | exact .inr (.inl rfl) | exact .inr (.inr rfl))) (a_cons (i_new a_nil) a_nil))) ss_nil)) ss_nil) ss_nil))))))) (ss_frzD (ss_cons (s_ret (i_tup (a_cons (i_v (i := 3) (by rfl) (by first | exact .inl rfl | exact .inr (.inl rfl) | exact .inr (.inr rfl))) (a_cons (i_v (i := 4) (by rfl) (by first | exact .inl rfl | exact .inr (.inl rfl) | exact .inr (.inr rfl))) a_nil)))) ss_nil)))))
theorem ok_powers_at (Z : Zs K mg) (B : BodyOk (BodyX P w K mg base ["choice", "place", "steps", "found", "left", "sign"] "powers_at" (defScope (top 70)) f cdv A outer s H) Ds 1000000 k) :
    PSs (BodyX P w K mg base ["choice", "place", "steps", "found", "left", "sign"] "powers_at" (defScope (top 70)) f cdv A outer s H) (defBody (top 70)) (tSs K (run (Fns Ds) 1000000 k) 1000000 b_powers_at) :=
  (ss_cons (s_par2 (i := 3) (j := 4) B.ok rfl rfl (by decide) rfl rfl (a_cons (i_new a_nil) (a_cons (i_v (i := 1) (by rfl) (by first | exact .inl rfl | exact .inr (.inl rfl) | exact .inr (.inr rfl))) a_nil)) rfl) (ss_cons (s_for B.ok PassesOwn.never (it_e (i_v (i := 0) (by rfl) (by first | exact .inl rfl | exact .inr (.inl rfl) | exact .inr (.inr rfl)))) (g_n (i := 5) B.ok rfl (by first | exact .inl rfl | exact .inr rfl) (by first | exact .inl rfl | exact .inr rfl)) (ss_cons (s_ex (i_me mf_append (i_v (i := 3) (by rfl) (by first | exact .inl rfl | exact .inr (.inl rfl) | exact .inr (.inr rfl))) (a_cons (i_ite (t_cmp B.ok (i_v (i := 5) (by rfl) (by first | exact .inl rfl | exact .inr (.inl rfl) | exact .inr (.inr rfl))) i_int) (i_op (i_v (i := 4) (by rfl) (by first | exact .inl rfl | exact .inr (.inl rfl) | exact .inr (.inr rfl))) (i_v (i := 2) (by rfl) (by first | exact .inl rfl | exact .inr (.inl rfl) | exact .inr (.inr rfl)))) i_int) a_nil))) (ss_cons (s_set (i := 4) B.ok rfl (by first | exact .inl rfl | exact .inr rfl) (i_ite (t_cmp B.ok (i_v (i := 5) (by rfl) (by first | exact .inl rfl | exact .inr (.inl rfl) | exact .inr (.inr rfl))) i_int) (i_op (i_v (i := 4) (by rfl) (by first | exact .inl rfl | exact .inr (.inl rfl) | exact .inr (.inr rfl))) (i_v (i := 2) (by rfl) (by first | exact .inl rfl | exact .inr (.inl rfl) | exact .inr (.inr rfl)))) (i_v (i := 4) (by rfl) (by first | exact .inl rfl | exact .inr (.inl rfl) | exact .inr (.inr rfl)))) rfl (by first | exact .inl rfl | exact .inr rfl)) ss_nil))) (ss_cons (s_ret (i_biT B.ok (b := .tuple) rfl (by rfl) Z.f_tuple boot_tuple (a_cons (i_v (i := 3) (by rfl) (by first | exact .inl rfl | exact .inr (.inl rfl) | exact .inr (.inr rfl))) a_nil))) ss_nil)))
theorem ok_digits_of (Z : Zs K mg) (B : BodyOk (BodyX P w K mg base ["number", "base", "most", "found", "left"] "digits_of" (defScope (top 71)) f cdv A outer s H) Ds 1000000 k) :
    PSs (BodyX P w K mg base ["number", "base", "most", "found", "left"] "digits_of" (defScope (top 71)) f cdv A outer s H) (defBody (top 71)) (tSs K (run (Fns Ds) 1000000 k) 1000000 b_digits_of) :=
  (ss_cons (s_par2 (i := 3) (j := 4) B.ok rfl rfl (by decide) rfl rfl (a_cons (i_new a_nil) (a_cons (i_v (i := 0) (by rfl) (by first | exact .inl rfl | exact .inr (.inl rfl) | exact .inr (.inr rfl))) a_nil)) rfl) (ss_cons (s_wh PassesOwn.never (t_w (w_and (t_cmp B.ok (i_v (i := 4) (by rfl) (by first | exact .inl rfl | exact .inr (.inl rfl) | exact .inr (.inr rfl))) i_int) (w_and1 (t_cmp B.ok (i_biB B.ok (b := .len) rfl (by rfl) Z.f_len boot_len (a_cons (i_v (i := 3) (by rfl) (by first | exact .inl rfl | exact .inr (.inl rfl) | exact .inr (.inr rfl))) a_nil)) (i_v (i := 2) (by rfl) (by first | exact .inl rfl | exact .inr (.inl rfl) | exact .inr (.inr rfl))))))) (ss_cons (s_ex (i_me mf_append (i_v (i := 3) (by rfl) (by first | exact .inl rfl | exact .inr (.inl rfl) | exact .inr (.inr rfl))) (a_cons (i_op (i_v (i := 4) (by rfl) (by first | exact .inl rfl | exact .inr (.inl rfl) | exact .inr (.inr rfl))) (i_v (i := 1) (by rfl) (by first | exact .inl rfl | exact .inr (.inl rfl) | exact .inr (.inr rfl)))) a_nil))) (ss_cons (s_set (i := 4) B.ok rfl (by first | exact .inl rfl | exact .inr rfl) (i_op (i_v (i := 4) (by rfl) (by first | exact .inl rfl | exact .inr (.inl rfl) | exact .inr (.inr rfl))) (i_v (i := 1) (by rfl) (by first | exact .inl rfl | exact .inr (.inl rfl) | exact .inr (.inr rfl)))) rfl (by first | exact .inl rfl | exact .inr rfl)) ss_nil))) (ss_frz (ss_cons (s_ret (i_tup (a_cons (i_v (i := 3) (by rfl) (by first | exact .inl rfl | exact .inr (.inl rfl) | exact .inr (.inr rfl))) (a_cons (i_v (i := 4) (by rfl) (by first | exact .inl rfl | exact .inr (.inl rfl) | exact .inr (.inr rfl))) a_nil)))) ss_nil))))
theorem ok_polynomial_of (Z : Zs K mg) (B : BodyOk (BodyX P w K mg base ["choice", "values", "first", "steps", "digits", "left", "terms", "place", "share", "powers"] "polynomial_of" (defScope (top 72)) f cdv A outer s H) Ds 1000000 k) :
    PSs (BodyX P w K mg base ["choice", "values", "first", "steps", "digits", "left", "terms", "place", "share", "powers"] "polynomial_of" (defScope (top 72)) f cdv A outer s H) (defBody (top 72)) (tSs K (run (Fns Ds) 1000000 k) 1000000 b_polynomial_of) :=
  (ss_cons (s_set (i := 2) B.ok rfl (by first | exact .inl rfl | exact .inr rfl) (i_ix (i_v (i := 1) (by rfl) (by first | exact .inl rfl | exact .inr (.inl rfl) | exact .inr (.inr rfl))) i_int) rfl (by first | exact .inl rfl | exact .inr rfl)) (ss_cons (s_if (t_cmp B.ok (i_biB B.ok (b := .len) rfl (by rfl) Z.f_len boot_len (a_cons (i_v (i := 1) (by rfl) (by first | exact .inl rfl | exact .inr (.inl rfl) | exact .inr (.inr rfl))) a_nil)) i_int) (ss_cons (s_ret (i_ite (t_cmp B.ok (i_v (i := 2) (by rfl) (by first | exact .inl rfl | exact .inr (.inl rfl) | exact .inr (.inr rfl))) i_int) (i_tup (a_cons (i_tup (a_cons (i_biT B.ok (b := .tuple) rfl (by rfl) Z.f_tuple boot_tuple (a_cons (i_op (i_lst (a_cons i_int a_nil)) (i_biB B.ok (b := .len) rfl (by rfl) Z.f_len boot_len (a_cons (i_v (i := 0) (by rfl) (by first | exact .inl rfl | exact .inr (.inl rfl) | exact .inr (.inr rfl))) a_nil))) a_nil)) (a_cons (i_v (i := 2) (by rfl) (by first | exact .inl rfl | exact .inr (.inl rfl) | exact .inr (.inr rfl))) a_nil))) a_nil)) (i_tup a_nil))) ss_nil) ss_nil) (ss_cons (s_set (i := 3) B.ok rfl (by first | exact .inl rfl | exact .inr rfl) (i_call B.ok (by rfl) (B.call 41 d_steps_of_places rfl rfl) (a_cons (i_v (i := 2) (by rfl) (by first | exact .inl rfl | exact .inr (.inl rfl) | exact .inr (.inr rfl))) a_nil)) rfl (by first | exact .inl rfl | exact .inr rfl)) (ss_cons (s_asg (i_call B.ok (by rfl) (B.call 48 d_digits_of rfl rfl) (a_cons (i_ix (i_v (i := 1) (by rfl) (by first | exact .inl rfl | exact .inr (.inl rfl) | exact .inr (.inr rfl))) i_int) (a_cons (i_op (i_v (i := 2) (by rfl) (by first | exact .inl rfl | exact .inr (.inl rfl) | exact .inr (.inr rfl))) i_int) (a_cons (i_call B.ok (by rfl) (B.call 40 d_raised rfl rfl) (a_cons (i_v (i := 3) (by rfl) (by first | exact .inl rfl | exact .inr (.inl rfl) | exact .inr (.inr rfl))) (a_cons (i_biB B.ok (b := .sum) rfl (by rfl) Z.f_sum boot_sum (a_cons (i_v (i := 0) (by rfl) (by first | exact .inl rfl | exact .inr (.inl rfl) | exact .inr (.inr rfl))) a_nil)) a_nil))) a_nil)))) (g_t B.ok (.cons (i := 4) rfl (by first | exact .inl rfl | exact .inr rfl) (by first | exact .inl rfl | exact .inr rfl) (.cons (i := 5) rfl (by first | exact .inl rfl | exact .inr rfl) (by first | exact .inl rfl | exact .inr rfl) .nil)))) (ss_cons (s_setLcI (i := 6) B.ok rfl rfl (sw_true rfl rfl rfl (by decide +kernel)) rfl (it_enum (by rfl) Z.f_enumerate (i_v (i := 4) (by rfl) (by first | exact .inl rfl | exact .inr (.inl rfl) | exact .inr (.inr rfl)))) (blkOk_by (N := ["choice", "values", "first", "steps", "digits", "left", "terms", "place", "share", "powers"]) (sc := (defScope (top 72))) (own := [("place", 7), ("share", 8)]) (by decide +kernel)) (fun _ _ _ _ _ => (g_t (cok_blk B.ok) (.cons (i := 7) rfl (by first | exact .inl rfl | exact .inr rfl) (by first | exact .inl rfl | exact .inr rfl) (.cons (i := 8) rfl (by first | exact .inl rfl | exact .inr rfl) (by first | exact .inl rfl | exact .inr rfl) .nil)))) (fun _ _ _ _ _ => (t_cmp (cok_blk B.ok) (i_v (i := 8) (by rfl) (by first | exact .inl rfl | exact .inr (.inl rfl) | exact .inr (.inr rfl))) i_int)) (fun _ _ _ _ _ => (i_tup (a_cons (i_call (cok_blk B.ok) (by rfl) (call_blk (B.call 47 d_powers_at rfl rfl)) (a_cons (i_v (i := 0) (by rfl) (by first | exact .inl rfl | exact .inr (.inl rfl) | exact .inr (.inr rfl))) (a_cons (i_v (i := 7) (by rfl) (by first | exact .inl rfl | exact .inr (.inl rfl) | exact .inr (.inr rfl))) (a_cons (i_v (i := 3) (by rfl) (by first | exact .inl rfl | exact .inr (.inl rfl) | exact .inr (.inr rfl))) a_nil)))) (a_cons (i_v (i := 8) (by rfl) (by first | exact .inl rfl | exact .inr (.inl rfl) | exact .inr (.inr rfl))) a_nil))))) (ss_cons (s_if (t_w (w_or (t_cmp B.ok (i_v (i := 5) (by rfl) (by first | exact .inl rfl | exact .inr (.inl rfl) | exact .inr (.inr rfl))) i_int) (w_or1 (t_cmp B.ok (i_biB B.ok (b := .sum) rfl (by rfl) Z.f_sum boot_sum (a_cons (i_comp B.ok rfl (it_e (i_v (i := 6) (by rfl) (by first | exact .inl rfl | exact .inr (.inl rfl) | exact .inr (.inr rfl)))) (blkOk_by (N := ["choice", "values", "first", "steps", "digits", "left", "terms", "place", "share", "powers"]) (sc := (defScope (top 72))) (own := [("powers", 9), ("share", 8)]) (by decide +kernel)) (fun _ _ _ _ _ => (g_t (cok_blk B.ok) (.cons (i := 9) rfl (by first | exact .inl rfl | exact .inr rfl) (by first | exact .inl rfl | exact .inr rfl) (.cons (i := 8) rfl (by first | exact .inl rfl | exact .inr rfl) (by first | exact .inl rfl | exact .inr rfl) .nil)))) (fun _ _ _ _ _ => (i_op (i_v (i := 8) (by rfl) (by first | exact .inl rfl | exact .inr (.inl rfl) | exact .inr (.inr rfl))) (i_call (cok_blk B.ok) (by rfl) (call_blk (B.call 40 d_raised rfl rfl)) (a_cons (i_g (by rfl) Z.g_FIRST) (a_cons (i_biB (cok_blk B.ok) (b := .sum) rfl (by rfl) Z.f_sum boot_sum (a_cons (i_v (i := 9) (by rfl) (by first | exact .inl rfl | exact .inr (.inl rfl) | exact .inr (.inr rfl))) a_nil)) a_nil)))))) a_nil)) (i_v (i := 2) (by rfl) (by first | exact .inl rfl | exact .inr (.inl rfl) | exact .inr (.inr rfl))))))) (ss_cons (s_ret i_non) ss_nil) ss_nil) (ss_cons (s_ret (i_biT B.ok (b := .tuple) rfl (by rfl) Z.f_tuple boot_tuple (a_cons (i_biB B.ok (b := .sorted) rfl (by rfl) Z.f_sorted boot_sorted (a_cons (i_v (i := 6) (by rfl) (by first | exact .inl rfl | exact .inr (.inl rfl) | exact .inr (.inr rfl))) a_nil)) a_nil))) ss_nil)))))))
theorem ok_need_answers (Z : Zs K mg) (B : BodyOk (BodyX P w K mg base ["many", "answers"] "need_answers" (defScope (top 73)) f cdv A outer s H) Ds 1000000 k) :
    PSs (BodyX P w K mg base ["many", "answers"] "need_answers" (defScope (top 73)) f cdv A outer s H) (defBody (top 73)) (tSs K (run (Fns Ds) 1000000 k) 1000000 b_need_answers) :=
  (ss_cons (s_ex (i_call B.ok (by rfl) (B.call 4 d_need_many rfl rfl) (a_cons (i_v (i := 0) (by rfl) (by first | exact .inl rfl | exact .inr (.inl rfl) | exact .inr (.inr rfl))) a_nil))) (ss_cons (s_if (t_not (t_e (i_call B.ok (by rfl) (B.call 39 d_are_answers rfl rfl) (a_cons (i_v (i := 1) (by rfl) (by first | exact .inl rfl | exact .inr (.inl rfl) | exact .inr (.inr rfl))) (a_cons (i_v (i := 0) (by rfl) (by first | exact .inl rfl | exact .inr (.inl rfl) | exact .inr (.inr rfl))) a_nil))))) (ss_cons s_never ss_nil) ss_nil) ss_nil))
theorem ok_next_ask (Z : Zs K mg) (B : BodyOk (BodyX P w K mg base ["many", "answers"] "next_ask" (defScope (top 74)) f cdv A outer s H) Ds 1000000 k) :
    PSs (BodyX P w K mg base ["many", "answers"] "next_ask" (defScope (top 74)) f cdv A outer s H) (defBody (top 74)) (tSs K (run (Fns Ds) 1000000 k) 1000000 b_next_ask) :=
  (ss_cons (s_ex (i_call B.ok (by rfl) (B.call 50 d_need_answers rfl rfl) (a_cons (i_v (i := 0) (by rfl) (by first | exact .inl rfl | exact .inr (.inl rfl) | exact .inr (.inr rfl))) (a_cons (i_v (i := 1) (by rfl) (by first | exact .inl rfl | exact .inr (.inl rfl) | exact .inr (.inr rfl))) a_nil)))) (ss_cons (s_ret (i_ix (i_call B.ok (by rfl) (B.call 46 d_sorted_out rfl rfl) (a_cons (i_v (i := 0) (by rfl) (by first | exact .inl rfl | exact .inr (.inl rfl) | exact .inr (.inr rfl))) (a_cons (i_v (i := 1) (by rfl) (by first | exact .inl rfl | exact .inr (.inl rfl) | exact .inr (.inr rfl))) a_nil))) i_int)) ss_nil))
theorem ok_told_by (Z : Zs K mg) (B : BodyOk (BodyX P w K mg base ["many", "answers", "values", "wanted", "rows", "choice", "told", "polynomial"] "told_by" (defScope (top 75)) f cdv A outer s H) Ds 1000000 k) :
    PSs (BodyX P w K mg base ["many", "answers", "values", "wanted", "rows", "choice", "told", "polynomial"] "told_by" (defScope (top 75)) f cdv A outer s H) (defBody (top 75)) (tSs K (run (Fns Ds) 1000000 k) 1000000 b_told_by) :=
  (ss_cons (s_ex (i_call B.ok (by rfl) (B.call 50 d_need_answers rfl rfl) (a_cons (i_v (i := 0) (by rfl) (by first | exact .inl rfl | exact .inr (.inl rfl) | exact .inr (.inr rfl))) (a_cons (i_v (i := 1) (by rfl) (by first | exact .inl rfl | exact .inr (.inl rfl) | exact .inr (.inr rfl))) a_nil)))) (ss_cons (s_asg (i_call B.ok (by rfl) (B.call 46 d_sorted_out rfl rfl) (a_cons (i_v (i := 0) (by rfl) (by first | exact .inl rfl | exact .inr (.inl rfl) | exact .inr (.inr rfl))) (a_cons (i_v (i := 1) (by rfl) (by first | exact .inl rfl | exact .inr (.inl rfl) | exact .inr (.inr rfl))) a_nil))) (g_t B.ok (.cons (i := 2) rfl (by first | exact .inl rfl | exact .inr rfl) (by first | exact .inl rfl | exact .inr rfl) (.cons (i := 3) rfl (by first | exact .inl rfl | exact .inr rfl) (by first | exact .inl rfl | exact .inr rfl) .nil)))) (ss_cons (s_if (t_cmp B.ok (i_v (i := 3) (by rfl) (by first | exact .inl rfl | exact .inr (.inl rfl) | exact .inr (.inr rfl))) i_non) (ss_cons s_never ss_nil) ss_nil) (ss_cons (s_set (i := 4) B.ok rfl (by first | exact .inl rfl | exact .inr rfl) (i_new a_nil) rfl (by first | exact .inl rfl | exact .inr rfl)) (ss_cons (s_for B.ok PassesOwn.never (it_zipG (by rfl) Z.f_zip (i_call B.ok (by rfl) (B.call 11 d_choices rfl rfl) (a_cons (i_v (i := 0) (by rfl) (by first | exact .inl rfl | exact .inr (.inl rfl) | exact .inr (.inr rfl))) a_nil)) (i_v (i := 2) (by rfl) (by first | exact .inl rfl | exact .inr (.inl rfl) | exact .inr (.inr rfl)))) (g_t B.ok (.cons (i := 5) rfl (by first | exact .inl rfl | exact .inr rfl) (by first | exact .inl rfl | exact .inr rfl) (.cons (i := 6) rfl (by first | exact .inl rfl | exact .inr rfl) (by first | exact .inl rfl | exact .inr rfl) .nil))) (ss_cons (s_set (i := 7) B.ok rfl (by first | exact .inl rfl | exact .inr rfl) (i_call B.ok (by rfl) (B.call 49 d_polynomial_of rfl rfl) (a_cons (i_v (i := 5) (by rfl) (by first | exact .inl rfl | exact .inr (.inl rfl) | exact .inr (.inr rfl))) (a_cons (i_v (i := 6) (by rfl) (by first | exact .inl rfl | exact .inr (.inl rfl) | exact .inr (.inr rfl))) a_nil))) rfl (by first | exact .inl rfl | exact .inr rfl)) (ss_cons (s_if (t_cmp B.ok (i_v (i := 7) (by rfl) (by first | exact .inl rfl | exact .inr (.inl rfl) | exact .inr (.inr rfl))) i_non) (ss_cons s_never ss_nil) ss_nil) (ss_cons (s_ex (i_me mf_append (i_v (i := 4) (by rfl) (by first | exact .inl rfl | exact .inr (.inl rfl) | exact .inr (.inr rfl))) (a_cons (i_v (i := 7) (by rfl) (by first | exact .inl rfl | exact .inr (.inl rfl) | exact .inr (.inr rfl))) a_nil))) ss_nil)))) (ss_frz (ss_cons (s_ret (i_mko B.ok (by rfl) (B.make 29 d_Table_init _ rfl rfl rfl) (a_cons (i_v (i := 0) (by rfl) (by first | exact .inl rfl | exact .inr (.inl rfl) | exact .inr (.inr rfl))) (a_cons (i_v (i := 4) (by rfl) (by first | exact .inl rfl | exact .inr (.inl rfl) | exact .inr (.inr rfl))) a_nil)))) ss_nil)))))))
theorem ok__law_tub (Z : Zs K mg) (B : BodyOk (BodyX P w K mg base ["script", "cell"] "_law_tub" (defScope (top 77)) f cdv A outer s H) Ds 1000000 k) :
    PSs (BodyX P w K mg base ["script", "cell"] "_law_tub" (defScope (top 77)) f cdv A outer s H) (defBody (top 77)) (tSs K (run (Fns Ds) 1000000 k) 1000000 b__law_tub) :=
  (ss_cons (s_ret (i_new (a_cons (i_comp B.ok rfl (it_e (i_sl (i_v (i := 0) (by rfl) (by first | exact .inl rfl | exact .inr (.inl rfl) | exact .inr (.inr rfl))) o_none (o_some i_int))) (blkOk_by (N := ["script", "cell"]) (sc := (defScope (top 77))) (own := [("cell", 1)]) (by decide +kernel)) (fun _ _ _ _ _ => (g_n (i := 1) (cok_blk B.ok) rfl (by first | exact .inl rfl | exact .inr rfl) (by first | exact .inl rfl | exact .inr rfl))) (fun _ _ _ _ _ => (i_biT (cok_blk B.ok) (b := .int) rfl (by rfl) Z.f_int boot_int (a_cons (i_v (i := 1) (by rfl) (by first | exact .inl rfl | exact .inr (.inl rfl) | exact .inr (.inr rfl))) a_nil)))) (a_cons i_int (a_cons i_int a_nil))))) ss_nil)
theorem ok__law_dip (Z : Zs K mg) (B : BodyOk (BodyX P w K mg base ["tub", "many", "turn", "cell", "mixed", "rest"] "_law_dip" (defScope (top 78)) f cdv A outer s H) Ds 1000000 k) :
    PSs (BodyX P w K mg base ["tub", "many", "turn", "cell", "mixed", "rest"] "_law_dip" (defScope (top 78)) f cdv A outer s H) (defBody (top 78)) (tSs K (run (Fns Ds) 1000000 k) 1000000 b__law_dip) :=
  (ss_cons (s_if (t_cmp B.ok (i_ix (i_v (i := 0) (by rfl) (by first | exact .inl rfl | exact .inr (.inl rfl) | exact .inr (.inr rfl))) i_int) i_int) (ss_cons (s_set (i := 5) B.ok rfl (by first | exact .inl rfl | exact .inr rfl) (i_ix (i_v (i := 0) (by rfl) (by first | exact .inl rfl | exact .inr (.inl rfl) | exact .inr (.inr rfl))) i_int) rfl (by first | exact .inl rfl | exact .inr rfl)) (ss_cons (s_put (i_v (i := 0) (by rfl) (by first | exact .inl rfl | exact .inr (.inl rfl) | exact .inr (.inr rfl))) i_int (i_op (i_biT B.ok (b := .int) rfl (by rfl) Z.f_int boot_int (a_cons (i_v (i := 5) (by rfl) (by first | exact .inl rfl | exact .inr (.inl rfl) | exact .inr (.inr rfl))) a_nil)) (i_v (i := 1) (by rfl) (by first | exact .inl rfl | exact .inr (.inl rfl) | exact .inr (.inr rfl))))) (ss_cons (s_ret (i_op (i_biT B.ok (b := .int) rfl (by rfl) Z.f_int boot_int (a_cons (i_v (i := 5) (by rfl) (by first | exact .inl rfl | exact .inr (.inl rfl) | exact .inr (.inr rfl))) a_nil)) (i_v (i := 1) (by rfl) (by first | exact .inl rfl | exact .inr (.inl rfl) | exact .inr (.inr rfl))))) ss_nil))) ss_nil) (ss_cons (s_set (i := 2) B.ok rfl (by first | exact .inl rfl | exact .inr rfl) (i_ix (i_v (i := 0) (by rfl) (by first | exact .inl rfl | exact .inr (.inl rfl) | exact .inr (.inr rfl))) i_int) rfl (by first | exact .inl rfl | exact .inr rfl)) (ss_cons (s_put (i_v (i := 0) (by rfl) (by first | exact .inl rfl | exact .inr (.inl rfl) | exact .inr (.inr rfl))) i_int (i_op (i_v (i := 2) (by rfl) (by first | exact .inl rfl | exact .inr (.inl rfl) | exact .inr (.inr rfl))) i_int)) (ss_cons (s_set (i := 3) B.ok rfl (by first | exact .inl rfl | exact .inr rfl) (i_op (i_op i_int (i_v (i := 2) (by rfl) (by first | exact .inl rfl | exact .inr (.inl rfl) | exact .inr (.inr rfl)))) i_int) rfl (by first | exact .inl rfl | exact .inr rfl)) (ss_cons (s_if (t_cmp B.ok (i_ix (i_v (i := 0) (by rfl) (by first | exact .inl rfl | exact .inr (.inl rfl) | exact .inr (.inr rfl))) i_int) (i_lst a_nil)) (ss_cons (s_set (i := 3) B.ok rfl (by first | exact .inl rfl | exact .inr rfl) (i_ix (i_ix (i_v (i := 0) (by rfl) (by first | exact .inl rfl | exact .inr (.inl rfl) | exact .inr (.inr rfl))) i_int) (i_op (i_biT B.ok (b := .int) rfl (by rfl) Z.f_int boot_int (a_cons (i_v (i := 2) (by rfl) (by first | exact .inl rfl | exact .inr (.inl rfl) | exact .inr (.inr rfl))) a_nil)) (i_biB B.ok (b := .len) rfl (by rfl) Z.f_len boot_len (a_cons (i_ix (i_v (i := 0) (by rfl) (by first | exact .inl rfl | exact .inr (.inl rfl) | exact .inr (.inr rfl))) i_int) a_nil)))) rfl (by first | exact .inl rfl | exact .inr rfl)) ss_nil) ss_nil) (ss_cons (s_if (t_w (w_and (t_cmp B.ok (i_v (i := 2) (by rfl) (by first | exact .inl rfl | exact .inr (.inl rfl) | exact .inr (.inr rfl))) (i_biB B.ok (b := .len) rfl (by rfl) Z.f_len boot_len (a_cons (i_ix (i_v (i := 0) (by rfl) (by first | exact .inl rfl | exact .inr (.inl rfl) | exact .inr (.inr rfl))) i_int) a_nil))) (w_and1 (t_cmp B.ok (i_biB B.ok (b := .abs) rfl (by rfl) Z.f_abs boot_abs (a_cons (i_v (i := 3) (by rfl) (by first | exact .inl rfl | exact .inr (.inl rfl) | exact .inr (.inr rfl))) a_nil)) (i_op i_int i_int))))) (ss_cons (s_set (i := 5) B.ok rfl (by first | exact .inl rfl | exact .inr rfl) (i_op (i_op i_int (i_op (i_biB B.ok (b := .abs) rfl (by rfl) Z.f_abs boot_abs (a_cons (i_v (i := 3) (by rfl) (by first | exact .inl rfl | exact .inr (.inl rfl) | exact .inr (.inr rfl))) a_nil)) (i_op i_int i_int))) (i_biT B.ok (b := .int) rfl (by rfl) Z.f_int boot_int (a_cons (i_cmp B.ok (i_v (i := 3) (by rfl) (by first | exact .inl rfl | exact .inr (.inl rfl) | exact .inr (.inr rfl))) i_int) a_nil))) rfl (by first | exact .inl rfl | exact .inr rfl)) (ss_cons (s_put (i_v (i := 0) (by rfl) (by first | exact .inl rfl | exact .inr (.inl rfl) | exact .inr (.inr rfl))) i_int (i_op (i_biT B.ok (b := .int) rfl (by rfl) Z.f_int boot_int (a_cons (i_v (i := 5) (by rfl) (by first | exact .inl rfl | exact .inr (.inl rfl) | exact .inr (.inr rfl))) a_nil)) (i_v (i := 1) (by rfl) (by first | exact .inl rfl | exact .inr (.inl rfl) | exact .inr (.inr rfl))))) (ss_cons (s_ret (i_op (i_biT B.ok (b := .int) rfl (by rfl) Z.f_int boot_int (a_cons (i_v (i := 5) (by rfl) (by first | exact .inl rfl | exact .inr (.inl rfl) | exact .inr (.inr rfl))) a_nil)) (i_v (i := 1) (by rfl) (by first | exact .inl rfl | exact .inr (.inl rfl) | exact .inr (.inr rfl))))) ss_nil))) ss_nil) (ss_cons (s_set (i := 4) B.ok rfl (by first | exact .inl rfl | exact .inr rfl) (i_op (i_biT B.ok (b := .int) rfl (by rfl) Z.f_int boot_int (a_cons (i_op (i_op (i_op (i_op (i_biT B.ok (b := .int) rfl (by rfl) Z.f_int boot_int (a_cons (i_v (i := 3) (by rfl) (by first | exact .inl rfl | exact .inr (.inl rfl) | exact .inr (.inr rfl))) a_nil)) i_int) (i_op i_int (i_v (i := 2) (by rfl) (by first | exact .inl rfl | exact .inr (.inl rfl) | exact .inr (.inr rfl))))) i_int) i_int) a_nil)) i_int) rfl (by first | exact .inl rfl | exact .inr rfl)) (ss_cons (s_set (i := 4) B.ok rfl (by first | exact .inl rfl | exact .inr rfl) (i_op (i_biT B.ok (b := .int) rfl (by rfl) Z.f_int boot_int (a_cons (i_op (i_op (i_op (i_op (i_v (i := 4) (by rfl) (by first | exact .inl rfl | exact .inr (.inl rfl) | exact .inr (.inr rfl))) (i_op (i_op i_int (i_v (i := 2) (by rfl) (by first | exact .inl rfl | exact .inr (.inl rfl) | exact .inr (.inr rfl)))) i_int)) (i_op (i_op i_int (i_v (i := 2) (by rfl) (by first | exact .inl rfl | exact .inr (.inl rfl) | exact .inr (.inr rfl)))) (i_v (i := 2) (by rfl) (by first | exact .inl rfl | exact .inr (.inl rfl) | exact .inr (.inr rfl))))) i_int) i_int) a_nil)) i_int) rfl (by first | exact .inl rfl | exact .inr rfl)) (ss_cons (s_ret (i_op (i_biT B.ok (b := .int) rfl (by rfl) Z.f_int boot_int (a_cons (i_op (i_v (i := 4) (by rfl) (by first | exact .inl rfl | exact .inr (.inl rfl) | exact .inr (.inr rfl))) i_int) a_nil)) (i_v (i := 1) (by rfl) (by first | exact .inl rfl | exact .inr (.inl rfl) | exact .inr (.inr rfl))))) ss_nil)))))))))
theorem ok__law_pick (Z : Zs K mg) (B : BodyOk (BodyX P w K mg base ["tub", "some"] "_law_pick" (defScope (top 79)) f cdv A outer s H) Ds 1000000 k) :
    PSs (BodyX P w K mg base ["tub", "some"] "_law_pick" (defScope (top 79)) f cdv A outer s H) (defBody (top 79)) (tSs K (run (Fns Ds) 1000000 k) 1000000 b__law_pick) :=
  (ss_cons (s_ret (i_ix (i_v (i := 1) (by rfl) (by first | exact .inl rfl | exact .inr (.inl rfl) | exact .inr (.inr rfl))) (i_call B.ok (by rfl) (B.call 54 d__law_dip rfl rfl) (a_cons (i_v (i := 0) (by rfl) (by first | exact .inl rfl | exact .inr (.inl rfl) | exact .inr (.inr rfl))) (a_cons (i_biB B.ok (b := .len) rfl (by rfl) Z.f_len boot_len (a_cons (i_v (i := 1) (by rfl) (by first | exact .inl rfl | exact .inr (.inl rfl) | exact .inr (.inr rfl))) a_nil)) a_nil))))) ss_nil)
theorem ok__law_power (Z : Zs K mg) (B : BodyOk (BodyX P w K mg base ["number", "times", "found", "turn"] "_law_power" (defScope (top 80)) f cdv A outer s H) Ds 1000000 k) :
    PSs (BodyX P w K mg base ["number", "times", "found", "turn"] "_law_power" (defScope (top 80)) f cdv A outer s H) (defBody (top 80)) (tSs K (run (Fns Ds) 1000000 k) 1000000 b__law_power) :=
  (ss_cons (s_set (i := 2) B.ok rfl (by first | exact .inl rfl | exact .inr rfl) i_int rfl (by first | exact .inl rfl | exact .inr rfl)) (ss_cons (s_for B.ok PassesOwn.never (it_rng1 (by rfl) Z.f_range (i_v (i := 1) (by rfl) (by first | exact .inl rfl | exact .inr (.inl rfl) | exact .inr (.inr rfl)))) (g_n (i := 3) B.ok rfl (by first | exact .inl rfl | exact .inr rfl) (by first | exact .inl rfl | exact .inr rfl)) (ss_cons (s_set (i := 2) B.ok rfl (by first | exact .inl rfl | exact .inr rfl) (i_op (i_v (i := 2) (by rfl) (by first | exact .inl rfl | exact .inr (.inl rfl) | exact .inr (.inr rfl))) (i_v (i := 0) (by rfl) (by first | exact .inl rfl | exact .inr (.inl rfl) | exact .inr (.inr rfl)))) rfl (by first | exact .inl rfl | exact .inr rfl)) ss_nil)) (ss_cons (s_ret (i_v (i := 2) (by rfl) (by first | exact .inl rfl | exact .inr (.inl rfl) | exact .inr (.inr rfl)))) ss_nil)))
theorem ok__law_shares (Z : Zs K mg) (B : BodyOk (BodyX P w K mg base ["tub", "found", "total", "turn", "power", "share"] "_law_shares" (defScope (top 81)) f cdv A outer s H) Ds 1000000 k) :
    PSs (BodyX P w K mg base ["tub", "found", "total", "turn", "power", "share"] "_law_shares" (defScope (top 81)) f cdv A outer s H) (defBody (top 81)) (tSs K (run (Fns Ds) 1000000 k) 1000000 b__law_shares) :=
  (ss_cons (s_par2 (i := 1) (j := 2) B.ok rfl rfl (by decide) rfl rfl (a_cons (i_newop (i_lst (a_cons i_int a_nil)) i_int) (a_cons i_int a_nil)) rfl) (ss_cons (s_for B.ok PassesOwn.never (it_rng1 (by rfl) Z.f_range (i_call B.ok (by rfl) (B.call 54 d__law_dip rfl rfl) (a_cons (i_v (i := 0) (by rfl) (by first | exact .inl rfl | exact .inr (.inl rfl) | exact .inr (.inr rfl))) (a_cons i_int a_nil)))) (g_n (i := 3) B.ok rfl (by first | exact .inl rfl | exact .inr rfl) (by first | exact .inl rfl | exact .inr rfl)) (ss_cons (s_set (i := 4) B.ok rfl (by first | exact .inl rfl | exact .inr rfl) (i_call B.ok (by rfl) (B.call 54 d__law_dip rfl rfl) (a_cons (i_v (i := 0) (by rfl) (by first | exact .inl rfl | exact .inr (.inl rfl) | exact .inr (.inr rfl))) (a_cons (i_call B.ok (by rfl) (B.call 55 d__law_pick rfl rfl) (a_cons (i_v (i := 0) (by rfl) (by first | exact .inl rfl | exact .inr (.inl rfl) | exact .inr (.inr rfl))) (a_cons (i_lst (a_cons i_int (a_cons i_int (a_cons i_int (a_cons i_int a_nil))))) a_nil))) a_nil))) rfl (by first | exact .inl rfl | exact .inr rfl)) (ss_cons (s_set (i := 5) B.ok rfl (by first | exact .inl rfl | exact .inr rfl) (i_op i_int (i_call B.ok (by rfl) (B.call 54 d__law_dip rfl rfl) (a_cons (i_v (i := 0) (by rfl) (by first | exact .inl rfl | exact .inr (.inl rfl) | exact .inr (.inr rfl))) (a_cons (i_call B.ok (by rfl) (B.call 55 d__law_pick rfl rfl) (a_cons (i_v (i := 0) (by rfl) (by first | exact .inl rfl | exact .inr (.inl rfl) | exact .inr (.inr rfl))) (a_cons (i_lst (a_cons i_int (a_cons i_int (a_cons i_int (a_cons (i_op i_int i_int) a_nil))))) a_nil))) a_nil)))) rfl (by first | exact .inl rfl | exact .inr rfl)) (ss_cons (s_if (t_cmp B.ok (i_op (i_v (i := 2) (by rfl) (by first | exact .inl rfl | exact .inr (.inl rfl) | exact .inr (.inr rfl))) (i_op (i_v (i := 5) (by rfl) (by first | exact .inl rfl | exact .inr (.inl rfl) | exact .inr (.inr rfl))) (i_call B.ok (by rfl) (B.call 56 d__law_power rfl rfl) (a_cons i_int (a_cons (i_v (i := 4) (by rfl) (by first | exact .inl rfl | exact .inr (.inl rfl) | exact .inr (.inr rfl))) a_nil))))) (i_op i_int i_int)) (ss_cons (s_put (i_v (i := 1) (by rfl) (by first | exact .inl rfl | exact .inr (.inl rfl) | exact .inr (.inr rfl))) (i_v (i := 4) (by rfl) (by first | exact .inl rfl | exact .inr (.inl rfl) | exact .inr (.inr rfl))) (i_op (i_ix (i_v (i := 1) (by rfl) (by first | exact .inl rfl | exact .inr (.inl rfl) | exact .inr (.inr rfl))) (i_v (i := 4) (by rfl) (by first | exact .inl rfl | exact .inr (.inl rfl) | exact .inr (.inr rfl)))) (i_v (i := 5) (by rfl) (by first | exact .inl rfl | exact .inr (.inl rfl) | exact .inr (.inr rfl))))) (ss_cons (s_set (i := 2) B.ok rfl (by first | exact .inl rfl | exact .inr rfl) (i_op (i_v (i := 2) (by rfl) (by first | exact .inl rfl | exact .inr (.inl rfl) | exact .inr (.inr rfl))) (i_op (i_v (i := 5) (by rfl) (by first | exact .inl rfl | exact .inr (.inl rfl) | exact .inr (.inr rfl))) (i_call B.ok (by rfl) (B.call 56 d__law_power rfl rfl) (a_cons i_int (a_cons (i_v (i := 4) (by rfl) (by first | exact .inl rfl | exact .inr (.inl rfl) | exact .inr (.inr rfl))) a_nil))))) rfl (by first | exact .inl rfl | exact .inr rfl)) ss_nil)) ss_nil) ss_nil)))) (ss_cons (s_ret (i_frz (i := 1) (by rfl) (by first | exact .inl rfl | exact .inr (.inl rfl) | exact .inr (.inr rfl)))) ss_nil)))
theorem ok__law_worth (Z : Zs K mg) (B : BodyOk (BodyX P w K mg base ["shares", "number", "total", "share"] "_law_worth" (defScope (top 82)) f cdv A outer s H) Ds 1000000 k) :
    PSs (BodyX P w K mg base ["shares", "number", "total", "share"] "_law_worth" (defScope (top 82)) f cdv A outer s H) (defBody (top 82)) (tSs K (run (Fns Ds) 1000000 k) 1000000 b__law_worth) :=
  (ss_cons (s_set (i := 2) B.ok rfl (by first | exact .inl rfl | exact .inr rfl) i_int rfl (by first | exact .inl rfl | exact .inr rfl)) (ss_cons (s_for B.ok PassesOwn.never (it_e (i_rev (i_v (i := 0) (by rfl) (by first | exact .inl rfl | exact .inr (.inl rfl) | exact .inr (.inr rfl))))) (g_n (i := 3) B.ok rfl (by first | exact .inl rfl | exact .inr rfl) (by first | exact .inl rfl | exact .inr rfl)) (ss_cons (s_set (i := 2) B.ok rfl (by first | exact .inl rfl | exact .inr rfl) (i_op (i_op (i_v (i := 2) (by rfl) (by first | exact .inl rfl | exact .inr (.inl rfl) | exact .inr (.inr rfl))) (i_v (i := 1) (by rfl) (by first | exact .inl rfl | exact .inr (.inl rfl) | exact .inr (.inr rfl)))) (i_v (i := 3) (by rfl) (by first | exact .inl rfl | exact .inr (.inl rfl) | exact .inr (.inr rfl)))) rfl (by first | exact .inl rfl | exact .inr rfl)) ss_nil)) (ss_cons (s_ret (i_v (i := 2) (by rfl) (by first | exact .inl rfl | exact .inr (.inl rfl) | exact .inr (.inr rfl)))) ss_nil)))
theorem ok__law_digits (Z : Zs K mg) (B : BodyOk (BodyX P w K mg base ["number", "base", "found", "left", "turn"] "_law_digits" (defScope (top 83)) f cdv A outer s H) Ds 1000000 k) :
    PSs (BodyX P w K mg base ["number", "base", "found", "left", "turn"] "_law_digits" (defScope (top 83)) f cdv A outer s H) (defBody (top 83)) (tSs K (run (Fns Ds) 1000000 k) 1000000 b__law_digits) :=
  (ss_cons (s_par2 (i := 2) (j := 3) B.ok rfl rfl (by decide) rfl rfl (a_cons (i_new a_nil) (a_cons (i_v (i := 0) (by rfl) (by first | exact .inl rfl | exact .inr (.inl rfl) | exact .inr (.inr rfl))) a_nil)) rfl) (ss_cons (s_for B.ok PassesOwn.never (it_rng1 (by rfl) Z.f_range i_int) (g_n (i := 4) B.ok rfl (by first | exact .inl rfl | exact .inr rfl) (by first | exact .inl rfl | exact .inr rfl)) (ss_cons (s_if (t_cmp B.ok (i_v (i := 3) (by rfl) (by first | exact .inl rfl | exact .inr (.inl rfl) | exact .inr (.inr rfl))) i_int) (ss_cons (s_ex (i_me mf_append (i_v (i := 2) (by rfl) (by first | exact .inl rfl | exact .inr (.inl rfl) | exact .inr (.inr rfl))) (a_cons (i_op (i_biT B.ok (b := .int) rfl (by rfl) Z.f_int boot_int (a_cons (i_v (i := 3) (by rfl) (by first | exact .inl rfl | exact .inr (.inl rfl) | exact .inr (.inr rfl))) a_nil)) (i_v (i := 1) (by rfl) (by first | exact .inl rfl | exact .inr (.inl rfl) | exact .inr (.inr rfl)))) a_nil))) (ss_cons (s_set (i := 3) B.ok rfl (by first | exact .inl rfl | exact .inr rfl) (i_op (i_biT B.ok (b := .int) rfl (by rfl) Z.f_int boot_int (a_cons (i_v (i := 3) (by rfl) (by first | exact .inl rfl | exact .inr (.inl rfl) | exact .inr (.inr rfl))) a_nil)) (i_v (i := 1) (by rfl) (by first | exact .inl rfl | exact .inr (.inl rfl) | exact .inr (.inr rfl)))) rfl (by first | exact .inl rfl | exact .inr rfl)) ss_nil)) ss_nil) ss_nil)) (ss_frz (ss_cons (s_ret (i_ite (t_cmp B.ok (i_v (i := 3) (by rfl) (by first | exact .inl rfl | exact .inr (.inl rfl) | exact .inr (.inr rfl))) i_int) (i_v (i := 2) (by rfl) (by first | exact .inl rfl | exact .inr (.inl rfl) | exact .inr (.inr rfl))) i_non)) ss_nil))))
theorem ok__law_told_right (Z : Zs K mg) (B : BodyOk (BodyX P w K mg base ["tub", "shares", "none", "value", "answers", "told", "terms", "due", "numbers", "answer", "far", "second", "digits", "power", "share", "term"] "_law_told_right" (defScope (top 84)) f cdv A outer s H) Ds 1000000 k) :
    PSs (BodyX P w K mg base ["tub", "shares", "none", "value", "answers", "told", "terms", "due", "numbers", "answer", "far", "second", "digits", "power", "share", "term"] "_law_told_right" (defScope (top 84)) f cdv A outer s H) (defBody (top 84)) (tSs K (run (Fns Ds) 1000000 k) 1000000 b__law_told_right) :=
  (ss_cons (s_set (i := 3) B.ok rfl (by first | exact .inl rfl | exact .inr rfl) (i_call B.ok (by rfl) (B.call 58 d__law_worth rfl rfl) (a_cons (i_v (i := 1) (by rfl) (by first | exact .inl rfl | exact .inr (.inl rfl) | exact .inr (.inr rfl))) (a_cons i_int a_nil))) rfl (by first | exact .inl rfl | exact .inr rfl)) (ss_cons (s_set (i := 4) B.ok rfl (by first | exact .inl rfl | exact .inr rfl) (i_new (a_cons (i_tup (a_cons (i_tup (a_cons i_int a_nil)) (a_cons (i_v (i := 2) (by rfl) (by first | exact .inl rfl | exact .inr (.inl rfl) | exact .inr (.inr rfl))) a_nil))) (a_cons (i_lst (a_cons (i_lst (a_cons i_int a_nil)) (a_cons (i_v (i := 3) (by rfl) (by first | exact .inl rfl | exact .inr (.inl rfl) | exact .inr (.inr rfl))) a_nil))) a_nil))) rfl (by first | exact .inl rfl | exact .inr rfl)) (ss_cons (s_if (t_cmp B.ok (i_v (i := 3) (by rfl) (by first | exact .inl rfl | exact .inr (.inl rfl) | exact .inr (.inr rfl))) i_int) (ss_cons (s_set (i := 11) B.ok rfl (by first | exact .inl rfl | exact .inr rfl) (i_call B.ok (by rfl) (B.call 58 d__law_worth rfl rfl) (a_cons (i_v (i := 1) (by rfl) (by first | exact .inl rfl | exact .inr (.inl rfl) | exact .inr (.inr rfl))) (a_cons (i_op (i_v (i := 3) (by rfl) (by first | exact .inl rfl | exact .inr (.inl rfl) | exact .inr (.inr rfl))) i_int) a_nil))) rfl (by first | exact .inl rfl | exact .inr rfl)) (ss_cons (s_set (i := 12) B.ok rfl (by first | exact .inl rfl | exact .inr rfl) (i_call B.ok (by rfl) (B.call 59 d__law_digits rfl rfl) (a_cons (i_v (i := 11) (by rfl) (by first | exact .inl rfl | exact .inr (.inl rfl) | exact .inr (.inr rfl))) (a_cons (i_op (i_v (i := 3) (by rfl) (by first | exact .inl rfl | exact .inr (.inl rfl) | exact .inr (.inr rfl))) i_int) a_nil))) rfl (by first | exact .inl rfl | exact .inr rfl)) (ss_cons (s_if (t_w (w_or (t_cmp B.ok (i_call B.ok (by rfl) (B.call 51 d_next_ask rfl rfl) (a_cons i_int (a_cons (i_v (i := 4) (by rfl) (by first | exact .inl rfl | exact .inr (.inl rfl) | exact .inr (.inr rfl))) a_nil))) (i_tup (a_cons (i_op (i_v (i := 3) (by rfl) (by first | exact .inl rfl | exact .inr (.inl rfl) | exact .inr (.inr rfl))) i_int) a_nil))) (w_or (t_cmp B.ok (i_v (i := 12) (by rfl) (by first | exact .inl rfl | exact .inr (.inl rfl) | exact .inr (.inr rfl))) (i_sl (i_v (i := 1) (by rfl) (by first | exact .inl rfl | exact .inr (.inl rfl) | exact .inr (.inr rfl))) o_none (o_some (i_biB B.ok (b := .len) rfl (by rfl) Z.f_len boot_len (a_cons (i_v (i := 12) (by rfl) (by first | exact .inl rfl | exact .inr (.inl rfl) | exact .inr (.inr rfl))) a_nil))))) (w_or1 (t_cmp B.ok (i_biB B.ok (b := .sum) rfl (by rfl) Z.f_sum boot_sum (a_cons (i_sl (i_v (i := 1) (by rfl) (by first | exact .inl rfl | exact .inr (.inl rfl) | exact .inr (.inr rfl))) (o_some (i_biB B.ok (b := .len) rfl (by rfl) Z.f_len boot_len (a_cons (i_v (i := 12) (by rfl) (by first | exact .inl rfl | exact .inr (.inl rfl) | exact .inr (.inr rfl))) a_nil))) o_none) a_nil)) i_int))))) (ss_cons (s_ret i_bl) ss_nil) ss_nil) (ss_cons (s_ex (i_me mf_append (i_v (i := 4) (by rfl) (by first | exact .inl rfl | exact .inr (.inl rfl) | exact .inr (.inr rfl))) (a_cons (i_tup (a_cons (i_tup (a_cons (i_op (i_v (i := 3) (by rfl) (by first | exact .inl rfl | exact .inr (.inl rfl) | exact .inr (.inr rfl))) i_int) a_nil)) (a_cons (i_v (i := 11) (by rfl) (by first | exact .inl rfl | exact .inr (.inl rfl) | exact .inr (.inr rfl))) a_nil))) a_nil))) ss_nil)))) ss_nil) (ss_cons (s_set (i := 5) B.ok rfl (by first | exact .inl rfl | exact .inr rfl) (i_callK0 B.ok (by rfl) (B.callK 52 d_told_by _ _ _ rfl rfl kw_told_by_0_answers_many) (k_cons (i_v (i := 4) (by rfl) (by first | exact .inl rfl | exact .inr (.inl rfl) | exact .inr (.inr rfl))) (k_cons i_int k_nil)) (by rfl)) rfl (by first | exact .inl rfl | exact .inr rfl)) (ss_cons (s_set (i := 6) B.ok rfl (by first | exact .inl rfl | exact .inr rfl) (i_biT B.ok (b := .tuple) rfl (by rfl) Z.f_tuple boot_tuple (a_cons (i_compI B.ok rfl (it_enum (by rfl) Z.f_enumerate (i_v (i := 1) (by rfl) (by first | exact .inl rfl | exact .inr (.inl rfl) | exact .inr (.inr rfl)))) (blkOk_by (N := ["tub", "shares", "none", "value", "answers", "told", "terms", "due", "numbers", "answer", "far", "second", "digits", "power", "share", "term"]) (sc := (defScope (top 84))) (own := [("power", 13), ("share", 14)]) (by decide +kernel)) (fun _ _ _ _ _ => (g_t (cok_blk B.ok) (.cons (i := 13) rfl (by first | exact .inl rfl | exact .inr rfl) (by first | exact .inl rfl | exact .inr rfl) (.cons (i := 14) rfl (by first | exact .inl rfl | exact .inr rfl) (by first | exact .inl rfl | exact .inr rfl) .nil)))) (fun _ _ _ _ _ => (t_cmp (cok_blk B.ok) (i_v (i := 14) (by rfl) (by first | exact .inl rfl | exact .inr (.inl rfl) | exact .inr (.inr rfl))) i_int)) (fun _ _ _ _ _ => (i_tup (a_cons (i_tup (a_cons (i_v (i := 13) (by rfl) (by first | exact .inl rfl | exact .inr (.inl rfl) | exact .inr (.inr rfl))) a_nil)) (a_cons (i_v (i := 14) (by rfl) (by first | exact .inl rfl | exact .inr (.inl rfl) | exact .inr (.inr rfl))) a_nil))))) a_nil)) rfl (by first | exact .inl rfl | exact .inr rfl)) (ss_cons (s_set (i := 7) B.ok rfl (by first | exact .inl rfl | exact .inr rfl) (i_tup (a_cons (i_ite (t_cmp B.ok (i_v (i := 2) (by rfl) (by first | exact .inl rfl | exact .inr (.inl rfl) | exact .inr (.inr rfl))) i_int) (i_tup (a_cons (i_tup (a_cons (i_tup (a_cons i_int a_nil)) (a_cons (i_v (i := 2) (by rfl) (by first | exact .inl rfl | exact .inr (.inl rfl) | exact .inr (.inr rfl))) a_nil))) a_nil)) (i_tup a_nil)) (a_cons (i_v (i := 6) (by rfl) (by first | exact .inl rfl | exact .inr (.inl rfl) | exact .inr (.inr rfl))) a_nil))) rfl (by first | exact .inl rfl | exact .inr rfl)) (ss_cons (s_if (t_w (w_or (t_not (t_e (i_isC (by rfl) Z.f_isinstance (by rfl) Z.m_Table Z.k_Table (i_v (i := 5) (by rfl) (by first | exact .inl rfl | exact .inr (.inl rfl) | exact .inr (.inr rfl)))))) (w_or (t_cmp B.ok (i_fld Z.c_Table Z.n_Table_many (i_v (i := 5) (by rfl) (by first | exact .inl rfl | exact .inr (.inl rfl) | exact .inr (.inr rfl)))) i_int) (w_or (t_cmp B.ok (i_fld Z.c_Table Z.n_Table_rows (i_v (i := 5) (by rfl) (by first | exact .inl rfl | exact .inr (.inl rfl) | exact .inr (.inr rfl)))) (i_v (i := 7) (by rfl) (by first | exact .inl rfl | exact .inr (.inl rfl) | exact .inr (.inr rfl)))) (w_or (t_one_ B.ok (B.ne 35 d_Table_eq _ rfl rfl rfl) Z.e_Table.1 Z.e_Table.2 (i_v (i := 5) (by rfl) (by first | exact .inl rfl | exact .inr (.inl rfl) | exact .inr (.inr rfl))) (i_mko B.ok (by rfl) (B.make 29 d_Table_init _ rfl rfl rfl) (a_cons i_int (a_cons (i_v (i := 7) (by rfl) (by first | exact .inl rfl | exact .inr (.inl rfl) | exact .inr (.inr rfl))) a_nil)))) (w_or1 (t_cmp B.ok (i_call B.ok (by rfl) (B.call 51 d_next_ask rfl rfl) (a_cons i_int (a_cons (i_v (i := 4) (by rfl) (by first | exact .inl rfl | exact .inr (.inl rfl) | exact .inr (.inr rfl))) a_nil))) i_non))))))) (ss_cons (s_ret i_bl) ss_nil) ss_nil) (ss_cons (s_if (t_cmp B.ok (i_compI B.ok rfl (it_e (i_ix (i_fld Z.c_Table Z.n_Table_rows (i_v (i := 5) (by rfl) (by first | exact .inl rfl | exact .inr (.inl rfl) | exact .inr (.inr rfl)))) i_int)) (blkOk_by (N := ["tub", "shares", "none", "value", "answers", "told", "terms", "due", "numbers", "answer", "far", "second", "digits", "power", "share", "term"]) (sc := (defScope (top 84))) (own := [("term", 15)]) (by decide +kernel)) (fun _ _ _ _ _ => (g_n (i := 15) (cok_blk B.ok) rfl (by first | exact .inl rfl | exact .inr rfl) (by first | exact .inl rfl | exact .inr rfl))) (fun _ _ _ _ _ => (t_w (w_or (t_e (i_is1 (by rfl) Z.f_isinstance (i_ix (i_v (i := 15) (by rfl) (by first | exact .inl rfl | exact .inr (.inl rfl) | exact .inr (.inr rfl))) i_int) (ty_ok (t := .bool) (by rfl) Z.f_bool boot_bool))) (w_or1 (t_not (t_e (i_is1 (by rfl) Z.f_isinstance (i_ix (i_v (i := 15) (by rfl) (by first | exact .inl rfl | exact .inr (.inl rfl) | exact .inr (.inr rfl))) i_int) (ty_ok (t := .tuple) (by rfl) Z.f_tuple boot_tuple)))))))) (fun _ _ _ _ _ => (i_v (i := 15) (by rfl) (by first | exact .inl rfl | exact .inr (.inl rfl) | exact .inr (.inr rfl))))) (i_lst a_nil)) (ss_cons (s_ret i_bl) ss_nil) ss_nil) (ss_frz (ss_cons (s_for B.ok PassesOwn.never (it_e (i_v (i := 4) (by rfl) (by first | exact .inl rfl | exact .inr (.inl rfl) | exact .inr (.inr rfl)))) (g_t B.ok (.cons (i := 8) rfl (by first | exact .inl rfl | exact .inr rfl) (by first | exact .inl rfl | exact .inr rfl) (.cons (i := 9) rfl (by first | exact .inl rfl | exact .inr rfl) (by first | exact .inl rfl | exact .inr rfl) .nil))) (ss_cons (s_if (t_cmp B.ok (i_mcall B.ok (B.meth 30 d_Table_at _ rfl rfl (by decide)) (i_v (i := 5) (by rfl) (by first | exact .inl rfl | exact .inr (.inl rfl) | exact .inr (.inr rfl))) (a_cons (i_biT B.ok (b := .list) rfl (by rfl) Z.f_list boot_list (a_cons (i_v (i := 8) (by rfl) (by first | exact .inl rfl | exact .inr (.inl rfl) | exact .inr (.inr rfl))) a_nil)) a_nil)) (i_v (i := 9) (by rfl) (by first | exact .inl rfl | exact .inr (.inl rfl) | exact .inr (.inr rfl)))) (ss_cons (s_ret i_bl) ss_nil) ss_nil) ss_nil)) (ss_cons (s_set (i := 10) B.ok rfl (by first | exact .inl rfl | exact .inr rfl) (i_op i_int (i_call B.ok (by rfl) (B.call 54 d__law_dip rfl rfl) (a_cons (i_v (i := 0) (by rfl) (by first | exact .inl rfl | exact .inr (.inl rfl) | exact .inr (.inr rfl))) (a_cons (i_call B.ok (by rfl) (B.call 55 d__law_pick rfl rfl) (a_cons (i_v (i := 0) (by rfl) (by first | exact .inl rfl | exact .inr (.inl rfl) | exact .inr (.inr rfl))) (a_cons (i_lst (a_cons i_int (a_cons i_int (a_cons (i_op i_int i_int) a_nil)))) a_nil))) a_nil)))) rfl (by first | exact .inl rfl | exact .inr rfl)) (ss_cons (s_ret (i_and (i_cmp B.ok (i_mcall B.ok (B.meth 30 d_Table_at _ rfl rfl (by decide)) (i_v (i := 5) (by rfl) (by first | exact .inl rfl | exact .inr (.inl rfl) | exact .inr (.inr rfl))) (a_cons (i_tup (a_cons (i_v (i := 10) (by rfl) (by first | exact .inl rfl | exact .inr (.inl rfl) | exact .inr (.inr rfl))) a_nil)) a_nil)) (i_call B.ok (by rfl) (B.call 58 d__law_worth rfl rfl) (a_cons (i_v (i := 1) (by rfl) (by first | exact .inl rfl | exact .inr (.inl rfl) | exact .inr (.inr rfl))) (a_cons (i_v (i := 10) (by rfl) (by first | exact .inl rfl | exact .inr (.inl rfl) | exact .inr (.inr rfl))) a_nil)))) (i_one (i_oeq B.ok (B.meth 35 d_Table_eq _ rfl rfl (by decide)) (i_call B.ok (by rfl) (B.call 52 d_told_by rfl rfl) (a_cons i_int (a_cons (i_biT B.ok (b := .tuple) rfl (by rfl) Z.f_tuple boot_tuple (a_cons (i_v (i := 4) (by rfl) (by first | exact .inl rfl | exact .inr (.inl rfl) | exact .inr (.inr rfl))) a_nil)) a_nil))) (i_v (i := 5) (by rfl) (by first | exact .inl rfl | exact .inr (.inl rfl) | exact .inr (.inr rfl))))))) ss_nil))))))))))))
theorem ok_law (Z : Zs K mg) (B : BodyOk (BodyX P w K mg base ["script", "tub", "turn", "top", "straight", "none"] "law" (defScope (top 85)) f cdv A outer s H) Ds 1000000 k) :
    PSs (BodyX P w K mg base ["script", "tub", "turn", "top", "straight", "none"] "law" (defScope (top 85)) f cdv A outer s H) (defBody (top 85)) (tSs K (run (Fns Ds) 1000000 k) 1000000 b_law) :=
  (ss_cons (s_set (i := 1) B.ok rfl (by first | exact .inl rfl | exact .inr rfl) (i_call B.ok (by rfl) (B.call 53 d__law_tub rfl rfl) (a_cons (i_v (i := 0) (by rfl) (by first | exact .inl rfl | exact .inr (.inl rfl) | exact .inr (.inr rfl))) a_nil)) rfl (by first | exact .inl rfl | exact .inr rfl)) (ss_cons (s_for B.ok PassesOwn.never (it_rng1 (by rfl) Z.f_range i_int) (g_n (i := 2) B.ok rfl (by first | exact .inl rfl | exact .inr rfl) (by first | exact .inl rfl | exact .inr rfl)) (ss_cons (s_set (i := 5) B.ok rfl (by first | exact .inl rfl | exact .inr rfl) (i_call B.ok (by rfl) (B.call 55 d__law_pick rfl rfl) (a_cons (i_v (i := 1) (by rfl) (by first | exact .inl rfl | exact .inr (.inl rfl) | exact .inr (.inr rfl))) (a_cons (i_lst (a_cons i_int (a_cons i_int (a_cons i_int (a_cons (i_op i_int i_int) a_nil))))) a_nil))) rfl (by first | exact .inl rfl | exact .inr rfl)) (ss_cons (s_if (t_not (t_e (i_call B.ok (by rfl) (B.call 60 d__law_told_right rfl rfl) (a_cons (i_v (i := 1) (by rfl) (by first | exact .inl rfl | exact .inr (.inl rfl) | exact .inr (.inr rfl))) (a_cons (i_call B.ok (by rfl) (B.call 57 d__law_shares rfl rfl) (a_cons (i_v (i := 1) (by rfl) (by first | exact .inl rfl | exact .inr (.inl rfl) | exact .inr (.inr rfl))) a_nil)) (a_cons (i_v (i := 5) (by rfl) (by first | exact .inl rfl | exact .inr (.inl rfl) | exact .inr (.inr rfl))) a_nil)))))) (ss_cons (s_ret i_bl) ss_nil) ss_nil) ss_nil))) (ss_cons (s_par2 (i := 3) (j := 4) B.ok rfl rfl (by decide) rfl rfl (a_cons (i_op (i_op (i_lst (a_cons i_int a_nil)) i_int) (i_lst (a_cons i_int a_nil))) (a_cons (i_op (i_lst (a_cons i_int (a_cons i_int a_nil))) (i_op (i_lst (a_cons i_int a_nil)) i_int)) a_nil)) rfl) (ss_cons (s_ret (i_and (i_call B.ok (by rfl) (B.call 60 d__law_told_right rfl rfl) (a_cons (i_v (i := 1) (by rfl) (by first | exact .inl rfl | exact .inr (.inl rfl) | exact .inr (.inr rfl))) (a_cons (i_v (i := 3) (by rfl) (by first | exact .inl rfl | exact .inr (.inl rfl) | exact .inr (.inr rfl))) (a_cons i_int a_nil)))) (i_and (i_call B.ok (by rfl) (B.call 60 d__law_told_right rfl rfl) (a_cons (i_v (i := 1) (by rfl) (by first | exact .inl rfl | exact .inr (.inl rfl) | exact .inr (.inr rfl))) (a_cons (i_v (i := 4) (by rfl) (by first | exact .inl rfl | exact .inr (.inl rfl) | exact .inr (.inr rfl))) (a_cons i_int a_nil)))) (i_and (i_call B.ok (by rfl) (B.call 60 d__law_told_right rfl rfl) (a_cons (i_v (i := 1) (by rfl) (by first | exact .inl rfl | exact .inr (.inl rfl) | exact .inr (.inr rfl))) (a_cons (i_op (i_lst (a_cons i_int a_nil)) i_int) (a_cons i_int a_nil)))) (i_one (i_call B.ok (by rfl) (B.call 60 d__law_told_right rfl rfl) (a_cons (i_v (i := 1) (by rfl) (by first | exact .inl rfl | exact .inr (.inl rfl) | exact .inr (.inr rfl))) (a_cons (i_op (i_lst (a_cons i_int a_nil)) (i_op (i_lst (a_cons i_int a_nil)) i_int)) (a_cons i_int a_nil))))))))) ss_nil))))
end
theorem bodies {P : Program} {w : World} {K : PySem.W.Frag} {mg : Str → Option Value} {base : Heap} (Z : Zs K mg) : ∀ (i : Nat) (d : DefI), Ds[i]? = some d → ∀ k f cdv A outer s H, BodyOk (BodyX P w K mg base d.N d.qual d.scope f cdv A outer s H) Ds 1000000 k →
    PSs (BodyX P w K mg base d.N d.qual d.scope f cdv A outer s H) d.body (tSs K (run (Fns Ds) 1000000 k) 1000000 d.fn.body)
  | 0, _, rfl => fun _ _ _ _ _ _ _ B => ok__wall Z B
  | 1, _, rfl => fun _ _ _ _ _ _ _ B => ok_is_integer Z B
  | 2, _, rfl => fun _ _ _ _ _ _ _ B => ok_is_within Z B
  | 3, _, rfl => fun _ _ _ _ _ _ _ B => ok_need_number Z B
  | 4, _, rfl => fun _ _ _ _ _ _ _ B => ok_need_many Z B
  | 5, _, rfl => fun _ _ _ _ _ _ _ B => ok_are_numbers Z B
  | 6, _, rfl => fun _ _ _ _ _ _ _ B => ok_need_numbers Z B
  | 7, _, rfl => fun _ _ _ _ _ _ _ B => ok_fixed Z B
  | 8, _, rfl => fun _ _ _ _ _ _ _ B => ok_is_powers Z B
  | 9, _, rfl => fun _ _ _ _ _ _ _ B => ok_is_term Z B
  | 10, _, rfl => fun _ _ _ _ _ _ _ B => ok_is_polynomial Z B
  | 11, _, rfl => fun _ _ _ _ _ _ _ B => ok_choices Z B
  | 12, _, rfl => fun _ _ _ _ _ _ _ B => ok_choice_of Z B
  | 13, _, rfl => fun _ _ _ _ _ _ _ B => ok_choice_number Z B
  | 14, _, rfl => fun _ _ _ _ _ _ _ B => ok_as_polynomial Z B
  | 15, _, rfl => fun _ _ _ _ _ _ _ B => ok_gathered Z B
  | 16, _, rfl => fun _ _ _ _ _ _ _ B => ok_multiplied Z B
  | 17, _, rfl => fun _ _ _ _ _ _ _ B => ok_so_often Z B
  | 18, _, rfl => fun _ _ _ _ _ _ _ B => ok_worth_of Z B
  | 19, _, rfl => fun _ _ _ _ _ _ _ B => ok_most_power Z B
  | 20, _, rfl => fun _ _ _ _ _ _ _ B => ok_number_of_item Z B
  | 21, _, rfl => fun _ _ _ _ _ _ _ B => ok_are_rows Z B
  | 22, _, rfl => fun _ _ _ _ _ _ _ B => ok_term_text Z B
  | 23, _, rfl => fun _ _ _ _ _ _ _ B => ok_row_text Z B
  | 24, _, rfl => fun _ _ _ _ _ _ _ B => ok_term_of_item Z B
  | 25, _, rfl => fun _ _ _ _ _ _ _ B => ok_take_term Z B
  | 26, _, rfl => fun _ _ _ _ _ _ _ B => ok_take_row Z B
  | 27, _, rfl => fun _ _ _ _ _ _ _ B => ok_take_many Z B
  | 28, _, rfl => fun _ _ _ _ _ _ _ B => ok_need_few Z B
  | 29, _, rfl => fun _ _ _ _ _ _ _ B => ok_Table_init Z B
  | 30, _, rfl => fun _ _ _ _ _ _ _ B => ok_Table_at Z B
  | 31, _, rfl => fun _ _ _ _ _ _ _ B => ok_Table_need_like Z B
  | 32, _, rfl => fun _ _ _ _ _ _ _ B => ok_Table_plus Z B
  | 33, _, rfl => fun _ _ _ _ _ _ _ B => ok_Table_times Z B
  | 34, _, rfl => fun _ _ _ _ _ _ _ B => ok_Table_put_in Z B
  | 35, _, rfl => fun _ _ _ _ _ _ _ B => ok_Table_eq Z B
  | 36, _, rfl => fun _ _ _ _ _ _ _ B => ok_Table_str Z B
  | 37, _, rfl => fun _ _ _ _ _ _ _ B => ok_need_table Z B
  | 38, _, rfl => fun _ _ _ _ _ _ _ B => ok_is_answer Z B
  | 39, _, rfl => fun _ _ _ _ _ _ _ B => ok_are_answers Z B
  | 40, _, rfl => fun _ _ _ _ _ _ _ B => ok_raised Z B
  | 41, _, rfl => fun _ _ _ _ _ _ _ B => ok_steps_of_places Z B
  | 42, _, rfl => fun _ _ _ _ _ _ _ B => ok_spread Z B
  | 43, _, rfl => fun _ _ _ _ _ _ _ B => ok_second_numbers Z B
  | 44, _, rfl => fun _ _ _ _ _ _ _ B => ok_next_of Z B
  | 45, _, rfl => fun _ _ _ _ _ _ _ B => ok_need_small Z B
  | 46, _, rfl => fun _ _ _ _ _ _ _ B => ok_sorted_out Z B
  | 47, _, rfl => fun _ _ _ _ _ _ _ B => ok_powers_at Z B
  | 48, _, rfl => fun _ _ _ _ _ _ _ B => ok_digits_of Z B
  | 49, _, rfl => fun _ _ _ _ _ _ _ B => ok_polynomial_of Z B
  | 50, _, rfl => fun _ _ _ _ _ _ _ B => ok_need_answers Z B
  | 51, _, rfl => fun _ _ _ _ _ _ _ B => ok_next_ask Z B
  | 52, _, rfl => fun _ _ _ _ _ _ _ B => ok_told_by Z B
  | 53, _, rfl => fun _ _ _ _ _ _ _ B => ok__law_tub Z B
  | 54, _, rfl => fun _ _ _ _ _ _ _ B => ok__law_dip Z B
  | 55, _, rfl => fun _ _ _ _ _ _ _ B => ok__law_pick Z B
  | 56, _, rfl => fun _ _ _ _ _ _ _ B => ok__law_power Z B
  | 57, _, rfl => fun _ _ _ _ _ _ _ B => ok__law_shares Z B
  | 58, _, rfl => fun _ _ _ _ _ _ _ B => ok__law_worth Z B
  | 59, _, rfl => fun _ _ _ _ _ _ _ B => ok__law_digits Z B
  | 60, _, rfl => fun _ _ _ _ _ _ _ B => ok__law_told_right Z B
  | 61, _, rfl => fun _ _ _ _ _ _ _ B => ok_law Z B
  | n + 62, _, h => by simp [Ds] at h
theorem scopes : ∀ (i : Nat) (d : DefI), Ds[i]? = some d → FnScope d.N d.ps d.scope ∧ d.fn.ar = d.ps.length ∧ d.fn.sl = d.N.length
  | 0, _, rfl => ⟨⟨rfl, rfl, rfl, by decide +kernel, rfl, by decide +kernel, by decide +kernel⟩, rfl, rfl⟩
  | 1, _, rfl => ⟨⟨rfl, rfl, rfl, by decide +kernel, rfl, by decide +kernel, by decide +kernel⟩, rfl, rfl⟩
  | 2, _, rfl => ⟨⟨rfl, rfl, rfl, by decide +kernel, rfl, by decide +kernel, by decide +kernel⟩, rfl, rfl⟩
  | 3, _, rfl => ⟨⟨rfl, rfl, rfl, by decide +kernel, rfl, by decide +kernel, by decide +kernel⟩, rfl, rfl⟩
  | 4, _, rfl => ⟨⟨rfl, rfl, rfl, by decide +kernel, rfl, by decide +kernel, by decide +kernel⟩, rfl, rfl⟩
  | 5, _, rfl => ⟨⟨rfl, rfl, rfl, by decide +kernel, rfl, by decide +kernel, by decide +kernel⟩, rfl, rfl⟩
  | 6, _, rfl => ⟨⟨rfl, rfl, rfl, by decide +kernel, rfl, by decide +kernel, by decide +kernel⟩, rfl, rfl⟩
  | 7, _, rfl => ⟨⟨rfl, rfl, rfl, by decide +kernel, rfl, by decide +kernel, by decide +kernel⟩, rfl, rfl⟩
  | 8, _, rfl => ⟨⟨rfl, rfl, rfl, by decide +kernel, rfl, by decide +kernel, by decide +kernel⟩, rfl, rfl⟩
  | 9, _, rfl => ⟨⟨rfl, rfl, rfl, by decide +kernel, rfl, by decide +kernel, by decide +kernel⟩, rfl, rfl⟩
  | 10, _, rfl => ⟨⟨rfl, rfl, rfl, by decide +kernel, rfl, by decide +kernel, by decide +kernel⟩, rfl, rfl⟩
  | 11, _, rfl => ⟨⟨rfl, rfl, rfl, by decide +kernel, rfl, by decide +kernel, by decide +kernel⟩, rfl, rfl⟩
  | 12, _, rfl => ⟨⟨rfl, rfl, rfl, by decide +kernel, rfl, by decide +kernel, by decide +kernel⟩, rfl, rfl⟩
  | 13, _, rfl => ⟨⟨rfl, rfl, rfl, by decide +kernel, rfl, by decide +kernel, by decide +kernel⟩, rfl, rfl⟩
  | 14, _, rfl => ⟨⟨rfl, rfl, rfl, by decide +kernel, rfl, by decide +kernel, by decide +kernel⟩, rfl, rfl⟩
  | 15, _, rfl => ⟨⟨rfl, rfl, rfl, by decide +kernel, rfl, by decide +kernel, by decide +kernel⟩, rfl, rfl⟩
  | 16, _, rfl => ⟨⟨rfl, rfl, rfl, by decide +kernel, rfl, by decide +kernel, by decide +kernel⟩, rfl, rfl⟩
  | 17, _, rfl => ⟨⟨rfl, rfl, rfl, by decide +kernel, rfl, by decide +kernel, by decide +kernel⟩, rfl, rfl⟩
  | 18, _, rfl => ⟨⟨rfl, rfl, rfl, by decide +kernel, rfl, by decide +kernel, by decide +kernel⟩, rfl, rfl⟩
  | 19, _, rfl => ⟨⟨rfl, rfl, rfl, by decide +kernel, rfl, by decide +kernel, by decide +kernel⟩, rfl, rfl⟩
  | 20, _, rfl => ⟨⟨rfl, rfl, rfl, by decide +kernel, rfl, by decide +kernel, by decide +kernel⟩, rfl, rfl⟩
  | 21, _, rfl => ⟨⟨rfl, rfl, rfl, by decide +kernel, rfl, by decide +kernel, by decide +kernel⟩, rfl, rfl⟩
  | 22, _, rfl => ⟨⟨rfl, rfl, rfl, by decide +kernel, rfl, by decide +kernel, by decide +kernel⟩, rfl, rfl⟩
  | 23, _, rfl => ⟨⟨rfl, rfl, rfl, by decide +kernel, rfl, by decide +kernel, by decide +kernel⟩, rfl, rfl⟩
  | 24, _, rfl => ⟨⟨rfl, rfl, rfl, by decide +kernel, rfl, by decide +kernel, by decide +kernel⟩, rfl, rfl⟩
  | 25, _, rfl => ⟨⟨rfl, rfl, rfl, by decide +kernel, rfl, by decide +kernel, by decide +kernel⟩, rfl, rfl⟩
  | 26, _, rfl => ⟨⟨rfl, rfl, rfl, by decide +kernel, rfl, by decide +kernel, by decide +kernel⟩, rfl, rfl⟩
  | 27, _, rfl => ⟨⟨rfl, rfl, rfl, by decide +kernel, rfl, by decide +kernel, by decide +kernel⟩, rfl, rfl⟩
  | 28, _, rfl => ⟨⟨rfl, rfl, rfl, by decide +kernel, rfl, by decide +kernel, by decide +kernel⟩, rfl, rfl⟩
  | 29, _, rfl => ⟨⟨rfl, rfl, rfl, by decide +kernel, rfl, by decide +kernel, by decide +kernel⟩, rfl, rfl⟩
  | 30, _, rfl => ⟨⟨rfl, rfl, rfl, by decide +kernel, rfl, by decide +kernel, by decide +kernel⟩, rfl, rfl⟩
  | 31, _, rfl => ⟨⟨rfl, rfl, rfl, by decide +kernel, rfl, by decide +kernel, by decide +kernel⟩, rfl, rfl⟩
  | 32, _, rfl => ⟨⟨rfl, rfl, rfl, by decide +kernel, rfl, by decide +kernel, by decide +kernel⟩, rfl, rfl⟩
  | 33, _, rfl => ⟨⟨rfl, rfl, rfl, by decide +kernel, rfl, by decide +kernel, by decide +kernel⟩, rfl, rfl⟩
  | 34, _, rfl => ⟨⟨rfl, rfl, rfl, by decide +kernel, rfl, by decide +kernel, by decide +kernel⟩, rfl, rfl⟩
  | 35, _, rfl => ⟨⟨rfl, rfl, rfl, by decide +kernel, rfl, by decide +kernel, by decide +kernel⟩, rfl, rfl⟩
  | 36, _, rfl => ⟨⟨rfl, rfl, rfl, by decide +kernel, rfl, by decide +kernel, by decide +kernel⟩, rfl, rfl⟩
  | 37, _, rfl => ⟨⟨rfl, rfl, rfl, by decide +kernel, rfl, by decide +kernel, by decide +kernel⟩, rfl, rfl⟩
  | 38, _, rfl => ⟨⟨rfl, rfl, rfl, by decide +kernel, rfl, by decide +kernel, by decide +kernel⟩, rfl, rfl⟩
  | 39, _, rfl => ⟨⟨rfl, rfl, rfl, by decide +kernel, rfl, by decide +kernel, by decide +kernel⟩, rfl, rfl⟩
  | 40, _, rfl => ⟨⟨rfl, rfl, rfl, by decide +kernel, rfl, by decide +kernel, by decide +kernel⟩, rfl, rfl⟩
  | 41, _, rfl => ⟨⟨rfl, rfl, rfl, by decide +kernel, rfl, by decide +kernel, by decide +kernel⟩, rfl, rfl⟩
  | 42, _, rfl => ⟨⟨rfl, rfl, rfl, by decide +kernel, rfl, by decide +kernel, by decide +kernel⟩, rfl, rfl⟩
  | 43, _, rfl => ⟨⟨rfl, rfl, rfl, by decide +kernel, rfl, by decide +kernel, by decide +kernel⟩, rfl, rfl⟩
  | 44, _, rfl => ⟨⟨rfl, rfl, rfl, by decide +kernel, rfl, by decide +kernel, by decide +kernel⟩, rfl, rfl⟩
  | 45, _, rfl => ⟨⟨rfl, rfl, rfl, by decide +kernel, rfl, by decide +kernel, by decide +kernel⟩, rfl, rfl⟩
  | 46, _, rfl => ⟨⟨rfl, rfl, rfl, by decide +kernel, rfl, by decide +kernel, by decide +kernel⟩, rfl, rfl⟩
  | 47, _, rfl => ⟨⟨rfl, rfl, rfl, by decide +kernel, rfl, by decide +kernel, by decide +kernel⟩, rfl, rfl⟩
  | 48, _, rfl => ⟨⟨rfl, rfl, rfl, by decide +kernel, rfl, by decide +kernel, by decide +kernel⟩, rfl, rfl⟩
  | 49, _, rfl => ⟨⟨rfl, rfl, rfl, by decide +kernel, rfl, by decide +kernel, by decide +kernel⟩, rfl, rfl⟩
  | 50, _, rfl => ⟨⟨rfl, rfl, rfl, by decide +kernel, rfl, by decide +kernel, by decide +kernel⟩, rfl, rfl⟩
  | 51, _, rfl => ⟨⟨rfl, rfl, rfl, by decide +kernel, rfl, by decide +kernel, by decide +kernel⟩, rfl, rfl⟩
  | 52, _, rfl => ⟨⟨rfl, rfl, rfl, by decide +kernel, rfl, by decide +kernel, by decide +kernel⟩, rfl, rfl⟩
  | 53, _, rfl => ⟨⟨rfl, rfl, rfl, by decide +kernel, rfl, by decide +kernel, by decide +kernel⟩, rfl, rfl⟩
  | 54, _, rfl => ⟨⟨rfl, rfl, rfl, by decide +kernel, rfl, by decide +kernel, by decide +kernel⟩, rfl, rfl⟩
  | 55, _, rfl => ⟨⟨rfl, rfl, rfl, by decide +kernel, rfl, by decide +kernel, by decide +kernel⟩, rfl, rfl⟩
  | 56, _, rfl => ⟨⟨rfl, rfl, rfl, by decide +kernel, rfl, by decide +kernel, by decide +kernel⟩, rfl, rfl⟩
  | 57, _, rfl => ⟨⟨rfl, rfl, rfl, by decide +kernel, rfl, by decide +kernel, by decide +kernel⟩, rfl, rfl⟩
  | 58, _, rfl => ⟨⟨rfl, rfl, rfl, by decide +kernel, rfl, by decide +kernel, by decide +kernel⟩, rfl, rfl⟩
  | 59, _, rfl => ⟨⟨rfl, rfl, rfl, by decide +kernel, rfl, by decide +kernel, by decide +kernel⟩, rfl, rfl⟩
  | 60, _, rfl => ⟨⟨rfl, rfl, rfl, by decide +kernel, rfl, by decide +kernel, by decide +kernel⟩, rfl, rfl⟩
  | 61, _, rfl => ⟨⟨rfl, rfl, rfl, by decide +kernel, rfl, by decide +kernel, by decide +kernel⟩, rfl, rfl⟩
  | n + 62, _, h => by simp [Ds] at h
end Lk52

set_option Elab.async false
set_option linter.all false
set_option maxRecDepth 100000
set_option maxHeartbeats 4000000
namespace Lk52
open PySem PySem.Spec PyProof.Rows L2 Iv
theorem binds : ∀ (i : Nat) (d : DefI), Ds[i]? = some d → BindN d
  | 0, _, rfl => fun _ _ _ _ _ _ us h => match us, h with | [_], _ => rfl
  | 1, _, rfl => fun _ _ _ _ _ _ us h => match us, h with | [_], _ => rfl
  | 2, _, rfl => fun _ _ _ _ _ _ us h => match us, h with | [_, _, _], _ => rfl
  | 3, _, rfl => fun _ _ _ _ _ _ us h => match us, h with | [_, _, _, _], _ => rfl
  | 4, _, rfl => fun _ _ _ _ _ _ us h => match us, h with | [_], _ => rfl
  | 5, _, rfl => fun _ _ _ _ _ _ us h => match us, h with | [_], _ => rfl
  | 6, _, rfl => fun _ _ _ _ _ _ us h => match us, h with | [_, _, _], _ => rfl
  | 7, _, rfl => fun _ _ _ _ _ _ us h => match us, h with | [_], _ => rfl
  | 8, _, rfl => fun _ _ _ _ _ _ us h => match us, h with | [_, _], _ => rfl
  | 9, _, rfl => fun _ _ _ _ _ _ us h => match us, h with | [_, _], _ => rfl
  | 10, _, rfl => fun _ _ _ _ _ _ us h => match us, h with | [_, _, _], _ => rfl
  | 11, _, rfl => fun _ _ _ _ _ _ us h => match us, h with | [_], _ => rfl
  | 12, _, rfl => fun _ _ _ _ _ _ us h => match us, h with | [_], _ => rfl
  | 13, _, rfl => fun _ _ _ _ _ _ us h => match us, h with | [_], _ => rfl
  | 14, _, rfl => fun _ _ _ _ _ _ us h => match us, h with | [_], _ => rfl
  | 15, _, rfl => fun _ _ _ _ _ _ us h => match us, h with | [_], _ => rfl
  | 16, _, rfl => fun _ _ _ _ _ _ us h => match us, h with | [_, _], _ => rfl
  | 17, _, rfl => fun _ _ _ _ _ _ us h => match us, h with | [_, _], _ => rfl
  | 18, _, rfl => fun _ _ _ _ _ _ us h => match us, h with | [_, _], _ => rfl
  | 19, _, rfl => fun _ _ _ _ _ _ us h => match us, h with | [_, _], _ => rfl
  | 20, _, rfl => fun _ _ _ _ _ _ us h => match us, h with | [_], _ => rfl
  | 21, _, rfl => fun _ _ _ _ _ _ us h => match us, h with | [_, _], _ => rfl
  | 22, _, rfl => fun _ _ _ _ _ _ us h => match us, h with | [_, _], _ => rfl
  | 23, _, rfl => fun _ _ _ _ _ _ us h => match us, h with | [_], _ => rfl
  | 24, _, rfl => fun _ _ _ _ _ _ us h => match us, h with | [_, _], _ => rfl
  | 25, _, rfl => fun _ _ _ _ _ _ us h => match us, h with | [_, _, _], _ => rfl
  | 26, _, rfl => fun _ _ _ _ _ _ us h => match us, h with | [_, _], _ => rfl
  | 27, _, rfl => fun _ _ _ _ _ _ us h => match us, h with | [_], _ => rfl
  | 28, _, rfl => fun _ _ _ _ _ _ us h => match us, h with | [_, _], _ => rfl
  | 29, _, rfl => fun _ _ _ _ _ _ us h => match us, h with | [_, _, _], _ => rfl
  | 30, _, rfl => fun _ _ _ _ _ _ us h => match us, h with | [_, _], _ => rfl
  | 31, _, rfl => fun _ _ _ _ _ _ us h => match us, h with | [_, _], _ => rfl
  | 32, _, rfl => fun _ _ _ _ _ _ us h => match us, h with | [_, _], _ => rfl
  | 33, _, rfl => fun _ _ _ _ _ _ us h => match us, h with | [_, _], _ => rfl
  | 34, _, rfl => fun _ _ _ _ _ _ us h => match us, h with | [_, _, _], _ => rfl
  | 35, _, rfl => fun _ _ _ _ _ _ us h => match us, h with | [_, _], _ => rfl
  | 36, _, rfl => fun _ _ _ _ _ _ us h => match us, h with | [_], _ => rfl
  | 37, _, rfl => fun _ _ _ _ _ _ us h => match us, h with | [_, _], _ => rfl
  | 38, _, rfl => fun _ _ _ _ _ _ us h => match us, h with | [_, _], _ => rfl
  | 39, _, rfl => fun _ _ _ _ _ _ us h => match us, h with | [_, _], _ => rfl
  | 40, _, rfl => fun _ _ _ _ _ _ us h => match us, h with | [_, _], _ => rfl
  | 41, _, rfl => fun _ _ _ _ _ _ us h => match us, h with | [_], _ => rfl
  | 42, _, rfl => fun _ _ _ _ _ _ us h => match us, h with | [_, _], _ => rfl
  | 43, _, rfl => fun _ _ _ _ _ _ us h => match us, h with | [_, _], _ => rfl
  | 44, _, rfl => fun _ _ _ _ _ _ us h => match us, h with | [_, _], _ => rfl
  | 45, _, rfl => fun _ _ _ _ _ _ us h => match us, h with | [_, _], _ => rfl
  | 46, _, rfl => fun _ _ _ _ _ _ us h => match us, h with | [_, _], _ => rfl
  | 47, _, rfl => fun _ _ _ _ _ _ us h => match us, h with | [_, _, _], _ => rfl
  | 48, _, rfl => fun _ _ _ _ _ _ us h => match us, h with | [_, _, _], _ => rfl
  | 49, _, rfl => fun _ _ _ _ _ _ us h => match us, h with | [_, _], _ => rfl
  | 50, _, rfl => fun _ _ _ _ _ _ us h => match us, h with | [_, _], _ => rfl
  | 51, _, rfl => fun _ _ _ _ _ _ us h => match us, h with | [_, _], _ => rfl
  | 52, _, rfl => fun _ _ _ _ _ _ us h => match us, h with | [_, _], _ => rfl
  | 53, _, rfl => fun _ _ _ _ _ _ us h => match us, h with | [_], _ => rfl
  | 54, _, rfl => fun _ _ _ _ _ _ us h => match us, h with | [_, _], _ => rfl
  | 55, _, rfl => fun _ _ _ _ _ _ us h => match us, h with | [_, _], _ => rfl
  | 56, _, rfl => fun _ _ _ _ _ _ us h => match us, h with | [_, _], _ => rfl
  | 57, _, rfl => fun _ _ _ _ _ _ us h => match us, h with | [_], _ => rfl
  | 58, _, rfl => fun _ _ _ _ _ _ us h => match us, h with | [_, _], _ => rfl
  | 59, _, rfl => fun _ _ _ _ _ _ us h => match us, h with | [_, _], _ => rfl
  | 60, _, rfl => fun _ _ _ _ _ _ us h => match us, h with | [_, _, _], _ => rfl
  | 61, _, rfl => fun _ _ _ _ _ _ us h => match us, h with | [_], _ => rfl
  | n + 62, _, h => by simp [Ds] at h
def fa : List He.Fa := [.glo "_wall", .glo "is_integer", .glo "is_within", .glo "need_number", .glo "need_many", .glo "are_numbers", .glo "need_numbers", .glo "fixed", .glo "is_powers", .glo "is_term", .glo "is_polynomial", .glo "choices", .glo "choice_of", .glo "choice_number", .glo "as_polynomial", .glo "gathered", .glo "multiplied", .glo "so_often", .glo "worth_of", .glo "most_power", .glo "number_of_item", .glo "are_rows", .glo "term_text", .glo "row_text", .glo "term_of_item", .glo "take_term", .glo "take_row", .glo "take_many", .glo "need_few", .glo "Table", .mkr "Table", .cls "Table", .meth "Table" "at", .meth "Table" "need_like", .meth "Table" "plus", .meth "Table" "times", .meth "Table" "put_in", .meth "Table" "__eq__", .meth "Table" "__str__", .glo "need_table", .glo "is_answer", .glo "are_answers", .glo "raised", .glo "steps_of_places", .glo "spread", .glo "second_numbers", .glo "next_of", .glo "need_small", .glo "sorted_out", .glo "powers_at", .glo "digits_of", .glo "polynomial_of", .glo "need_answers", .glo "next_ask", .glo "told_by", .glo "_law_tub", .glo "_law_dip", .glo "_law_pick", .glo "_law_power", .glo "_law_shares", .glo "_law_worth", .glo "_law_digits", .glo "_law_told_right", .glo "law", .noat "Table" "many", .noat "Table" "rows", .free "abs", .free "all", .free "bool", .free "enumerate", .free "int", .free "isinstance", .free "len", .free "list", .free "range", .free "sorted", .free "str", .free "sum", .free "tuple", .free "zip"]
def exK (K : PySem.W.Frag) : Bool := true && gbx K "COLON" (.str ":") && gbx K "DIGITS" (.str "0123456789") && gbx K "DOT" (.str ".") && gbx K "FIRST" (.int 2) && gbx K "MOST_DIGITS" (.int 60) && gbx K "MOST_MANY_checks" (.int 3) && gbx K "MOST_MANY_polynomials" (.int 3) && gbx K "MOST_POWER" (.int 60) && gbx K "MOST_PRODUCTS" (.int 20000) && gbx K "MOST_VALUES" (.tup [.non, (.int 1000000000000000000), (.int 10000), (.int 200)]) && gbx K "NEXT" (.str "/") && gbx K "NONE" (.str "0") && clsB K "Table" ["Table"] [] && neB K "Table"
abbrev Rw : PySem.W.OpenLaw := PySem.Challenge.rw_timesagain_k52_one_number_told_by_two_as
abbrev R : PySem.W.OpenRow := PySem.W.OpenLaw.row Rw
abbrev fnD : List He.DefD := Ds.map DefI.he
abbrev hk : PySem.W.Hook := He.hookX 4 fa fnD [] [] exK
def ob (s : PySem.W.SharedT) : He.AlX := He.obsX 4 fa fnD [] [] exK (HandSHeadRun.getT s)
theorem ob_eq (s : PySem.W.SharedT) : ob s = hk.obs s.abs := He.obsX_eq (HandSHeadRun.getT_eq s)
def loose : List PySem.Str := (["_wall", "AgainError", "BadNumber", "BadTable", "Misfit", "Impossible", "TooMany", "BadText", "DIGITS", "MOST_MANY_checks", "is_integer", "is_within", "need_number", "need_many", "are_numbers", "need_numbers", "fixed", "Paper", "Denial", "MOST_MANY_polynomials", "MOST_POWER", "is_powers", "is_term", "is_polynomial", "choices", "choice_of", "choice_number", "as_polynomial", "gathered", "multiplied"] : List PySem.Str) ++ (["so_often", "worth_of", "most_power", "MOST_DIGITS", "number_of_item", "Scan", "MOST_PRODUCTS", "COLON", "NEXT", "NONE", "DOT", "are_rows", "term_text", "row_text", "term_of_item", "take_term", "take_row", "take_many", "need_few", "Table", "need_table", "FIRST", "MOST_VALUES", "Untold", "is_answer", "are_answers", "raised", "steps_of_places", "spread", "second_numbers"] : List PySem.Str) ++ (["next_of", "need_small", "sorted_out", "powers_at", "digits_of", "polynomial_of", "need_answers", "next_ask", "told_by", "_law_tub", "_law_dip", "_law_pick", "_law_power", "_law_shares", "_law_worth", "_law_digits", "_law_told_right"] : List PySem.Str)
theorem run_top (w : World) : HandSHeadRun.RunEq R (PySem.W.view R.prog [85]) hk ob 8000 loose w := by
  intro os
  kernel_rfl
theorem zs {K : PySem.W.Frag} {h : Heap} {w : World} {mg : Str → Option Value} (X : K.In h) (G : h.Ns mainGlobals mg) (c : He.SaysX fa fnD [] [] exK w h K) : Zs K mg := by
  have e : exK K = true := c.more
  simp only [exK, Bool.and_eq_true, Bool.true_and] at e
  obtain ⟨⟨⟨⟨⟨⟨⟨⟨⟨⟨⟨⟨⟨e0, e1⟩, e2⟩, e3⟩, e4⟩, e5⟩, e6⟩, e7⟩, e8⟩, e9⟩, e10⟩, e11⟩, e12⟩, e13⟩ := e
  exact ⟨glob_of X G e0, glob_of X G e1, glob_of X G e2, glob_of X G e3, glob_of X G e4, glob_of X G e5, glob_of X G e6, glob_of X G e7, glob_of X G e8, glob_of X G e9, glob_of X G e10, glob_of X G e11, He.free_ok X G (He.SaysD.facts c.t.d (f := .free "abs") (by simp [fa])), He.free_ok X G (He.SaysD.facts c.t.d (f := .free "all") (by simp [fa])), He.free_ok X G (He.SaysD.facts c.t.d (f := .free "bool") (by simp [fa])), He.free_ok X G (He.SaysD.facts c.t.d (f := .free "enumerate") (by simp [fa])), He.free_ok X G (He.SaysD.facts c.t.d (f := .free "int") (by simp [fa])), He.free_ok X G (He.SaysD.facts c.t.d (f := .free "isinstance") (by simp [fa])), He.free_ok X G (He.SaysD.facts c.t.d (f := .free "len") (by simp [fa])), He.free_ok X G (He.SaysD.facts c.t.d (f := .free "list") (by simp [fa])), He.free_ok X G (He.SaysD.facts c.t.d (f := .free "range") (by simp [fa])), He.free_ok X G (He.SaysD.facts c.t.d (f := .free "sorted") (by simp [fa])), He.free_ok X G (He.SaysD.facts c.t.d (f := .free "str") (by simp [fa])), He.free_ok X G (He.SaysD.facts c.t.d (f := .free "sum") (by simp [fa])), He.free_ok X G (He.SaysD.facts c.t.d (f := .free "tuple") (by simp [fa])), He.free_ok X G (He.SaysD.facts c.t.d (f := .free "zip") (by simp [fa])), He.glo_ok X G (He.SaysD.facts c.t.d (f := .glo "Table") (by simp [fa])), clsB_ok e12, neB_ok e13, He.cls_ok (He.SaysD.facts c.t.d (f := .cls "Table") (by simp [fa])), He.noat_ok (He.SaysD.facts c.t.d (f := .noat "Table" "many") (by simp [fa])), He.noat_ok (He.SaysD.facts c.t.d (f := .noat "Table" "rows") (by simp [fa]))⟩
theorem holds_of (hrun : ∀ ns : List Int, ns.length ≤ 63 → ∃ S', run (Fns Ds) 1000000 100 61 [.lst (ns.map D.int)] [] = some (.bl true, S')) : Rw.Holds := by
  w_on; o_law
  refine HandSHeadRun.head_any (r := R) (q := PySem.W.view R.prog [85]) (H := hk) (ob := ob) (M := 8000) (loose := loose) (d := HandSHeadRun.topDef R.prog 85) (kwd := []) ob_eq
    (by kernel_rfl) (fun s => by kernel_rfl) run_top (by kernel_rfl) (by kernel_rfl) (by kernel_rfl) (by rfl) (by first | assumption | decide +kernel) (by decide +kernel) ⟨rfl, rfl, rfl, rfl, rfl, by decide +kernel⟩ ?hw ?hc
  case hw => w_witness2
  case hc =>
    refine walk_I (l := Rw) (n := 63) (k := 100) (fi := 61) (x := "script") (F := run (Fns Ds) 1000000 100) rfl (by decide) (by kernel_rfl) ⟨rfl, by decide, by decide⟩ ?F hrun
    intro w mg f h Y G hmg0
    obtain ⟨K, KX, c⟩ := Y
    have hmg : mg ("law" : PySem.Str) = some (.ref f) := by
      have e : (HandSHeadRun.topDef R.prog 85).name = ("law" : PySem.Str) := by kernel_rfl
      rw [← e]
      exact hmg0
    have T : TopOk K mg Ds := topOk_of KX G c (fa_all (by decide +kernel)) binds scopes
    obtain ⟨fd, rfl, F, hb⟩ := law_fd (i := 61) T rfl rfl rfl (binds 61 _ rfl) hmg
    exact ⟨K, fd, KX, hb, fun base _ _ => all_fnI (base := base) T (bodies (zs KX G c)) 100 100 (Nat.le_refl _) 61 d_law fd rfl F⟩
end Lk52

set_option Elab.async false
set_option linter.all false
set_option maxRecDepth 100000
set_option maxHeartbeats 4000000
namespace Lk52
/-- the worth of shares at b -/
def hor (b : Nat) : List Nat → Nat
  | [] => 0
  | s :: l => hor b l * b + s
/-- without the noughts behind -/
def strip : List Nat → List Nat
  | [] => []
  | s :: l => if strip l = [] ∧ s = 0 then [] else s :: strip l
def digL (b : Nat) : Nat → Nat → List Nat
  | 0, _ => []
  | m + 1, x => if x = 0 then [] else x % b :: digL b m (x / b)
def terms : Nat → List Nat → List (Nat × Nat)
  | _, [] => []
  | k, s :: l => if s = 0 then terms (k + 1) l else (k, s) :: terms (k + 1) l
theorem strip_nil_hor (b : Nat) : ∀ l, strip l = [] → hor b l = 0
  | [], _ => rfl
  | s :: l, h => by
    unfold strip at h
    split at h
    · rename_i q
      rw [hor, strip_nil_hor b l q.1, q.2]; simp
    · cases h
theorem hor_zero (b : Nat) (hb : 1 ≤ b) : ∀ l, hor b l = 0 → strip l = []
  | [], _ => rfl
  | s :: l, h => by
    rw [hor] at h
    have h1 : hor b l * b = 0 := by omega
    have h2 : s = 0 := by omega
    have h3 : hor b l = 0 := by
      rcases Nat.mul_eq_zero.mp h1 with z | z
      · exact z
      · omega
    rw [strip, if_pos ⟨hor_zero b hb l h3, h2⟩]
theorem digL_hor {b : Nat} (hb : 1 ≤ b) : ∀ (l : List Nat) (m : Nat), (∀ s ∈ l, s < b) → l.length ≤ m → digL b m (hor b l) = strip l
  | [], m, _, _ => by cases m <;> simp [digL, hor, strip]
  | s :: l, 0, _, h => by cases h
  | s :: l, m + 1, hs, h => by
    have h1 : s < b := hs s List.mem_cons_self
    have ih := digL_hor hb l m (fun x hx => hs x (List.mem_cons_of_mem _ hx)) (by simpa using h)
    rw [digL, strip]
    by_cases z : strip l = [] ∧ s = 0
    · rw [if_pos z, hor, strip_nil_hor b l z.1, z.2]
      simp
    · have nz : hor b (s :: l) ≠ 0 := fun q => by
        have := hor_zero b hb (s :: l) q
        rw [strip, if_neg z] at this
        cases this
      rw [if_neg z, if_neg nz, hor]
      have e1 : (hor b l * b + s) % b = s := by rw [Nat.mul_comm, Nat.mul_add_mod, Nat.mod_eq_of_lt h1]
      have e2 : (hor b l * b + s) / b = hor b l := by
        rw [Nat.mul_comm, Nat.mul_add_div (by omega), Nat.div_eq_of_lt h1, Nat.add_zero]
      rw [e1, e2, ih]
theorem hor_lt {b : Nat} : ∀ l : List Nat, (∀ s ∈ l, s < b) → hor b l < b ^ l.length
  | [], _ => by simp [hor]
  | s :: l, hs => by
    have h1 := hs s List.mem_cons_self
    have ih := hor_lt l fun x hx => hs x (List.mem_cons_of_mem _ hx)
    rw [hor, List.length_cons, Nat.pow_succ]
    have : (hor b l + 1) * b ≤ b ^ l.length * b := Nat.mul_le_mul_right _ ih
    rw [Nat.add_mul, Nat.one_mul] at this
    omega
theorem strip_len : ∀ l, (strip l).length ≤ l.length
  | [] => Nat.le_refl _
  | s :: l => by
    rw [strip]
    split
    · simp
    · have := strip_len l
      simp only [List.length_cons]
      omega
theorem strip_big : ∀ l, strip l ≠ [] → 2 ^ ((strip l).length - 1) ≤ hor 2 l
  | [], h => absurd rfl h
  | s :: l, h => by
    rw [strip] at h ⊢
    split at h
    · exact absurd rfl h
    · rename_i z
      rw [if_neg z, hor]
      by_cases q : strip l = []
      · have hs : s ≠ 0 := fun e => z ⟨q, e⟩
        rw [q]
        simp
        omega
      · have ih := strip_big l q
        have hl : 1 ≤ (strip l).length := by
          cases hq : strip l with
          | nil => exact absurd hq q
          | cons a r => simp
        rw [List.length_cons, Nat.add_sub_cancel]
        have : 2 ^ (strip l).length = 2 ^ ((strip l).length - 1) * 2 := by rw [← Nat.pow_succ]; congr 1; omega
        omega
theorem strip_log {l : List Nat} {v : Nat} (h : hor 2 l = v) (hv : 1 ≤ v) : (strip l).length ≤ v.log2 + 1 := by
  by_cases q : strip l = []
  · rw [q]; simp
  · have := strip_big l q
    rw [h] at this
    have h2 := (Nat.le_log2 (by omega)).mpr this
    omega
theorem mem_le_hor : ∀ (l : List Nat) (b : Nat), 1 ≤ b → ∀ s ∈ l, s ≤ hor b l
  | s :: l, b, hb, x, hx => by
    rw [hor]
    rcases List.mem_cons.mp hx with rfl | hx
    · omega
    · have := mem_le_hor l b hb x hx
      have := Nat.le_mul_of_pos_right (hor b l) hb
      omega
/-- what is left out is nought -/
theorem strip_split : ∀ l, strip l ++ List.replicate (l.length - (strip l).length) 0 = l
  | [] => rfl
  | s :: l => by
    have ih := strip_split l
    have hl := strip_len l
    rw [strip]
    split
    · rename_i z
      rw [z.1] at ih
      rw [z.2]
      simp only [List.nil_append, List.length_nil, Nat.sub_zero, List.length_cons, List.replicate_succ] at ih ⊢
      rw [ih]
    · simp only [List.cons_append, List.length_cons]
      rw [show l.length + 1 - ((strip l).length + 1) = l.length - (strip l).length by omega, ih]
theorem terms_app : ∀ (a b : List Nat) (k : Nat), terms k (a ++ b) = terms k a ++ terms (k + a.length) b
  | [], b, k => by simp [terms]
  | s :: a, b, k => by
    have ih := terms_app a b (k + 1)
    have e : k + 1 + a.length = k + (s :: a).length := by simp only [List.length_cons]; omega
    rw [e] at ih
    simp only [List.cons_append, terms, ih]
    split <;> rfl
theorem terms_zero : ∀ (m k : Nat), terms k (List.replicate m 0) = []
  | 0, _ => rfl
  | m + 1, k => by rw [List.replicate_succ, terms, if_pos rfl, terms_zero m (k + 1)]
theorem terms_strip (l : List Nat) (k : Nat) : terms k (strip l) = terms k l := by
  have h := congrArg (terms k) (strip_split l)
  rw [terms_app, terms_zero, List.append_nil] at h
  exact h
theorem terms_sum (b : Nat) : ∀ (l : List Nat) (k : Nat), ((terms k l).map fun t => t.2 * b ^ t.1).sum = hor b l * b ^ k
  | [], k => by simp [terms, hor]
  | s :: l, k => by
    have ih := terms_sum b l (k + 1)
    have e : (hor b l * b + s) * b ^ k = hor b l * b ^ (k + 1) + s * b ^ k := by rw [Nat.add_mul, Nat.pow_succ, Nat.mul_assoc, Nat.mul_comm b]
    rw [terms, hor, e]
    split
    · rename_i z
      rw [ih, z]; simp
    · rw [List.map_cons, List.sum_cons, ih, Nat.add_comm]
theorem terms_mem : ∀ (l : List Nat) (k : Nat), ∀ t ∈ terms k l, k ≤ t.1 ∧ t.1 < k + l.length ∧ t.2 ≠ 0 ∧ t.2 ∈ l
  | s :: l, k, t, h => by
    rw [terms] at h
    have tail : t ∈ terms (k + 1) l → k ≤ t.1 ∧ t.1 < k + (s :: l).length ∧ t.2 ≠ 0 ∧ t.2 ∈ s :: l := fun h => by
      obtain ⟨h1, h2, h3, h4⟩ := terms_mem l (k + 1) t h
      exact ⟨by omega, by simp only [List.length_cons]; omega, h3, List.mem_cons_of_mem _ h4⟩
    split at h
    · exact tail h
    · rename_i z
      rcases List.mem_cons.mp h with rfl | h
      · exact ⟨Nat.le_refl _, by simp only [List.length_cons]; omega, z, List.mem_cons_self⟩
      · exact tail h
/-- powers go up -/
theorem terms_up : ∀ (l : List Nat) (k : Nat), (terms k l).Pairwise fun a b => a.1 < b.1
  | [], _ => .nil
  | s :: l, k => by
    rw [terms]
    split
    · exact terms_up l (k + 1)
    · exact .cons (fun t h => (terms_mem l (k + 1) t h).1) (terms_up l (k + 1))
theorem terms_len : ∀ (l : List Nat) (k : Nat), (terms k l).length ≤ l.length
  | [], _ => Nat.le_refl _
  | s :: l, k => by
    have := terms_len l (k + 1)
    rw [terms]
    split <;> simp only [List.length_cons] <;> omega
theorem terms_small {l : List Nat} {v : Nat} (h : hor 2 l = v) (hv : v ≤ 1) : terms 0 l = if v = 0 then [] else [(0, v)] := by
  cases l with
  | nil => cases h; rfl
  | cons s l =>
    rw [hor] at h
    have h0 : hor 2 l = 0 := by omega
    have hs : s = v := by omega
    have ht : terms 1 l = [] := by rw [← terms_strip, hor_zero 2 (by decide) l h0]; rfl
    rw [terms, Nat.zero_add, ht, hs]
/-- counted from behind -/
theorem foldl_rev (b : Nat) : ∀ l : List Nat, l.reverse.foldl (fun t s => t * b + s) 0 = hor b l
  | [] => rfl
  | s :: l => by rw [List.reverse_cons, List.foldl_append, foldl_rev b l]; rfl
theorem hor_le {b c : Nat} (h : b ≤ c) : ∀ l : List Nat, hor b l ≤ hor c l
  | [] => Nat.le_refl _
  | s :: l => by
    have := Nat.mul_le_mul (hor_le h l) h
    rw [hor, hor]
    omega
end Lk52

set_option Elab.async false
set_option linter.all false
set_option maxRecDepth 100000
set_option maxHeartbeats 4000000
namespace Lk52
open PySem Iv
abbrev T : List Fn := Fns Ds
theorem t0 : T[0]? = some ⟨1, 1, b__wall⟩ := rfl
theorem t1 : T[1]? = some ⟨1, 1, b_is_integer⟩ := rfl
theorem t2 : T[2]? = some ⟨3, 3, b_is_within⟩ := rfl
theorem t3 : T[3]? = some ⟨4, 4, b_need_number⟩ := rfl
theorem t4 : T[4]? = some ⟨1, 1, b_need_many⟩ := rfl
theorem t5 : T[5]? = some ⟨1, 2, b_are_numbers⟩ := rfl
theorem t6 : T[6]? = some ⟨3, 3, b_need_numbers⟩ := rfl
theorem t7 : T[7]? = some ⟨1, 2, b_fixed⟩ := rfl
theorem t8 : T[8]? = some ⟨2, 6, b_is_powers⟩ := rfl
theorem t9 : T[9]? = some ⟨2, 2, b_is_term⟩ := rfl
theorem t10 : T[10]? = some ⟨3, 7, b_is_polynomial⟩ := rfl
theorem t11 : T[11]? = some ⟨1, 5, b_choices⟩ := rfl
theorem t12 : T[12]? = some ⟨1, 2, b_choice_of⟩ := rfl
theorem t13 : T[13]? = some ⟨1, 3, b_choice_number⟩ := rfl
theorem t14 : T[14]? = some ⟨1, 3, b_as_polynomial⟩ := rfl
theorem t15 : T[15]? = some ⟨1, 4, b_gathered⟩ := rfl
theorem t16 : T[16]? = some ⟨2, 9, b_multiplied⟩ := rfl
theorem t17 : T[17]? = some ⟨2, 4, b_so_often⟩ := rfl
theorem t18 : T[18]? = some ⟨2, 8, b_worth_of⟩ := rfl
theorem t19 : T[19]? = some ⟨2, 4, b_most_power⟩ := rfl
theorem t20 : T[20]? = some ⟨1, 2, b_number_of_item⟩ := rfl
theorem t21 : T[21]? = some ⟨2, 5, b_are_rows⟩ := rfl
theorem t22 : T[22]? = some ⟨2, 3, b_term_text⟩ := rfl
theorem t23 : T[23]? = some ⟨1, 4, b_row_text⟩ := rfl
theorem t24 : T[24]? = some ⟨2, 7, b_term_of_item⟩ := rfl
theorem t25 : T[25]? = some ⟨3, 4, b_take_term⟩ := rfl
theorem t26 : T[26]? = some ⟨2, 3, b_take_row⟩ := rfl
theorem t27 : T[27]? = some ⟨1, 2, b_take_many⟩ := rfl
theorem t28 : T[28]? = some ⟨2, 2, b_need_few⟩ := rfl
theorem t29 : T[29]? = some ⟨3, 4, b_Table_init⟩ := rfl
theorem t30 : T[30]? = some ⟨2, 2, b_Table_at⟩ := rfl
theorem t31 : T[31]? = some ⟨2, 2, b_Table_need_like⟩ := rfl
theorem t32 : T[32]? = some ⟨2, 2, b_Table_plus⟩ := rfl
theorem t33 : T[33]? = some ⟨2, 8, b_Table_times⟩ := rfl
theorem t34 : T[34]? = some ⟨3, 3, b_Table_put_in⟩ := rfl
theorem t35 : T[35]? = some ⟨2, 2, b_Table_eq⟩ := rfl
theorem t36 : T[36]? = some ⟨1, 3, b_Table_str⟩ := rfl
theorem t37 : T[37]? = some ⟨2, 2, b_need_table⟩ := rfl
theorem t38 : T[38]? = some ⟨2, 2, b_is_answer⟩ := rfl
theorem t39 : T[39]? = some ⟨2, 3, b_are_answers⟩ := rfl
theorem t40 : T[40]? = some ⟨2, 4, b_raised⟩ := rfl
theorem t41 : T[41]? = some ⟨1, 1, b_steps_of_places⟩ := rfl
theorem t42 : T[42]? = some ⟨2, 5, b_spread⟩ := rfl
theorem t43 : T[43]? = some ⟨2, 4, b_second_numbers⟩ := rfl
theorem t44 : T[44]? = some ⟨2, 2, b_next_of⟩ := rfl
theorem t45 : T[45]? = some ⟨2, 3, b_need_small⟩ := rfl
theorem t46 : T[46]? = some ⟨2, 8, b_sorted_out⟩ := rfl
theorem t47 : T[47]? = some ⟨3, 6, b_powers_at⟩ := rfl
theorem t48 : T[48]? = some ⟨3, 5, b_digits_of⟩ := rfl
theorem t49 : T[49]? = some ⟨2, 10, b_polynomial_of⟩ := rfl
theorem t50 : T[50]? = some ⟨2, 2, b_need_answers⟩ := rfl
theorem t51 : T[51]? = some ⟨2, 2, b_next_ask⟩ := rfl
theorem t52 : T[52]? = some ⟨2, 8, b_told_by⟩ := rfl
theorem t53 : T[53]? = some ⟨1, 2, b__law_tub⟩ := rfl
theorem t54 : T[54]? = some ⟨2, 6, reachB 61043 3191 2147483543 73013 2147483549 2659 2147483497⟩ := rfl
theorem t55 : T[55]? = some ⟨2, 2, oneB 54⟩ := rfl
theorem t56 : T[56]? = some ⟨2, 4, b__law_power⟩ := rfl
theorem t57 : T[57]? = some ⟨1, 6, b__law_shares⟩ := rfl
theorem t58 : T[58]? = some ⟨2, 4, b__law_worth⟩ := rfl
theorem t59 : T[59]? = some ⟨2, 5, b__law_digits⟩ := rfl
theorem t60 : T[60]? = some ⟨3, 16, b__law_told_right⟩ := rfl
theorem t61 : T[61]? = some ⟨1, 6, b_law⟩ := rfl
theorem nums : NumsOk 61043 3191 2147483543 73013 2147483549 2659 2147483497 := ⟨by decide, by decide, by decide, by decide, by decide, by decide, by decide⟩
theorem dr {w : Nat} (c : List Int) : Dr T w 54 c := dr_of t54 nums
variable {w n : Nat} {S : Sto}
theorem is_int (i : Int) : run T w (n + 1) 1 [.int i] S = some (.bl true, S) :=
  run_rts t1 rfl rfl (by simp [b_is_integer, exs, ex, ev, see, isTy, tyOf])
theorem within {i lo hi : Int} (h1 : lo ≤ i) (h2 : i ≤ hi) : run T w (n + 2) 2 [.int i, .int lo, .int hi] S = some (.bl true, S) :=
  run_rts t2 rfl rfl (by simp [b_is_within, exs, ex, ev, evs, see, is_int, cmpD, Int.not_lt.mpr h1, h2])
theorem withinN {i : Int} (h1 : 0 ≤ i) : run T w (n + 2) 2 [.int i, .int 0, .non] S = some (.bl true, S) :=
  run_rts t2 rfl rfl (by simp [b_is_within, exs, ex, ev, evs, see, is_int, cmpD, Int.not_lt.mpr h1])
theorem need_many {m : Int} (h1 : 0 ≤ m) (h2 : m ≤ 3) : run T w (n + 4) 4 [.int m] S = some (.non, S) := by
  have e : run T w (n + 3) 3 [.int m, .str "many", .int 0, .int 3] S = some (.non, S) := run_nxs (ρ := [some (.int m), some (.str "many"), some (.int 0), some (.int 3)]) t3 rfl rfl (by simp [b_need_number, exs, ex, ev, evs, see, within h1 h2])
  exact run_nxs (ρ := [some (.int m)]) t4 rfl rfl (by simp [b_need_many, exs, ex, ev, evs, see, e])
theorem all_true : ∀ k : Nat, bls? (List.replicate k (.bl true)) = some (List.replicate k true)
  | 0 => rfl
  | k + 1 => by simp [List.replicate_succ, bls?, all_true k]
theorem all_trueD {xs : List D} (h : ∀ x ∈ xs, x = .bl true) : biD .all [.lst xs] = some (.bl true) := by
  have e : xs = List.replicate xs.length (.bl true) := List.eq_replicate_iff.mpr ⟨rfl, h⟩
  show (bls? xs).map _ = _
  rw [e, all_true]
  simp
/-- a row of numbers, as a list or as a tuple -/
def row (t : Bool) (c : List Int) : D := if t then .tup (c.map D.int) else .lst (c.map D.int)
theorem are_numbers {t : Bool} {c : List Int} (h : ∀ x ∈ c, 0 ≤ x) (hl : c.length ≤ 1000) : run T w (n + 3) 5 [row t c] S = some (.bl true, S) := by
  refine run_rts t5 rfl rfl ?_
  have e1 : items (row t c) = some (c.map D.int) := by cases t <;> rfl
  have e2 : ev (run T w (n + 2)) (.comp false (.n 1) (.v 0) (.call 2 (.cons (.v 1) (.cons (.c (.int 0)) (.cons (.c .non) .nil))))) [some (row t c), none] S = some (.lst ((c.map D.int).map fun _ => .bl true), S) :=
    ev_comp (x := row t c) (xs := c.map D.int) (g := fun _ => .bl true) (by simp [ev]) e1 (fun d hd => by
      obtain ⟨x, hx, rfl⟩ := List.mem_map.mp hd
      exact ⟨_, rfl, by simp [ev, evs, wipeT, withinN (h x hx)]⟩) (by rw [List.length_map]; omega)
  have e3 : biD .all [.lst ((c.map D.int).map fun _ => D.bl true)] = some (.bl true) := all_trueD fun x hx => by
    obtain ⟨_, _, rfl⟩ := List.mem_map.mp hx
    rfl
  have e4 : see S (row t c) = some (row t c) := by cases t <;> rfl
  have e5 : ([Ty.list, Ty.tuple].any (isTy (row t c))) = true := by cases t <;> rfl
  have s1 : ev (run T w (n + 2)) (.isi (.v 0) [.list, .tuple]) [some (row t c), none] S = some (.bl true, S) := by
    simp only [ev, List.getElem?_cons_zero, e4, e5]
  have s2 : ev (run T w (n + 2)) (.bi .all (.cons (.comp false (.n 1) (.v 0) (.call 2 (.cons (.v 1) (.cons (.c (.int 0)) (.cons (.c .non) .nil))))) .nil)) [some (row t c), none] S = some (.bl true, S) := by
    rw [ev, evs, e2]
    simp only [evs, seeAll, see, e3]
  show exs _ _ b_are_numbers [some (row t c), none] S = _
  rw [b_are_numbers, exs, ex, ev, s1]
  simp only [s2]
def bit (c : Bool) : Int := if c then 1 else 0
def wyT (p : List Bool) : D := .tup (p.map fun c => .int (bit c))
theorem map_bit (p : List Bool) : (p.map fun c => D.int (bit c)) = (p.map bit).map D.int := by rw [List.map_map]; rfl
def chs : Nat → List (List Bool)
  | 0 => [[]]
  | m + 1 => (chs m).flatMap fun c => [c ++ [false], c ++ [true]]
theorem chs_len : ∀ m, (chs m).length = 2 ^ m
  | 0 => rfl
  | m + 1 => by
    have : ∀ l : List (List Bool), (l.flatMap fun c => [c ++ [false], c ++ [true]]).length = 2 * l.length := fun l => by
      induction l with
      | nil => rfl
      | cons a l ih => rw [List.flatMap_cons, List.length_append, ih, List.length_cons, List.length_cons, List.length_cons, List.length_nil]; omega
    rw [chs, this, chs_len m, Nat.pow_succ]; omega
def chI : E := (.comp2 false (.n 3) (.v 1) (.n 4) (.tup (.cons (.c (.int 0)) (.cons (.c (.int 1)) .nil))) (.tup (.star (.v 3) (.cons (.v 4) .nil))))
theorem comp2Run_all {g : D → Sto → Option (List D × (D → Sto → Option (Option D × Sto)) × Sto)} {h : D → List D} {k : Nat} : ∀ (xs acc : List D), (∀ d ∈ xs, (h d).length = k ∧ ∃ ys f, g d S = some (ys, f, S) ∧ ∀ acc : List D, acc.length + k ≤ 1000 → compRun f ys acc S = some (acc ++ h d, S)) →
    acc.length + k * xs.length ≤ 1000 → comp2Run g xs acc S = some (acc ++ xs.flatMap h, S)
  | [], acc, _, _ => by simp [comp2Run]
  | d :: xs, acc, hd, hl => by
    obtain ⟨e0, ys, f, e1, e2⟩ := hd d List.mem_cons_self
    rw [List.length_cons, Nat.mul_succ] at hl
    have ih := comp2Run_all (g := g) (h := h) (k := k) xs (acc ++ h d) (fun e he => hd e (List.mem_cons_of_mem _ he)) (by rw [List.length_append, e0]; omega)
    unfold comp2Run
    simp only [e1, e2 acc (by omega), ih, List.flatMap_cons, List.append_assoc]
theorem add_bit {F : CF} {v0 v1 v2 : Option D} (p : List Bool) (c : Bool) (hp : p.length ≤ 100) : ev F (.tup (.star (.v 3) (.cons (.v 4) .nil))) [v0, v1, v2, some (wyT p), some (.int (bit c))] S = some (wyT (p ++ [c]), S) := by
  have sm : small (p.length + 1) = true := decide_eq_true (by omega)
  simp only [ev, evs, List.getElem?_cons_succ, List.getElem?_cons_zero, wyT, see, List.length_append, List.length_map, List.length_cons, List.length_nil, Nat.zero_add, sm, if_true, List.map_append, List.map_cons, List.map_nil]
def twoB (p : D) : List D := match p with
  | .tup ds => [.tup (ds ++ [.int 0]), .tup (ds ++ [.int 1])]
  | _ => []
theorem twoB_wy (p : List Bool) : twoB (wyT p) = [wyT (p ++ [false]), wyT (p ++ [true])] := by simp [twoB, wyT, bit]
theorem flat_two (l : List (List Bool)) : (l.map wyT).flatMap twoB = (l.flatMap fun c => [c ++ [false], c ++ [true]]).map wyT := by
  induction l with
  | nil => rfl
  | cons p l ih => rw [List.map_cons, List.flatMap_cons, ih, twoB_wy, List.flatMap_cons, List.map_append]; rfl
theorem ch_turn {F : CF} {v0 v2 v3 v4 : Option D} (l : List (List Bool)) (hp : ∀ p ∈ l, p.length ≤ 100) (hl : l.length ≤ 400) : ev F chI [v0, some (.lst (l.map wyT)), v2, v3, v4] S = some (.lst ((l.flatMap fun c => [c ++ [false], c ++ [true]]).map wyT), S) := by
  unfold chI
  rw [ev]
  have e0 : ev F (.v 1) [v0, some (.lst (l.map wyT)), v2, v3, v4] S = some (.lst (l.map wyT), S) := by simp [ev]
  have two : small 2 = true := rfl
  have e1 : ∀ ρ : Iv.Env, ev F (.tup (.cons (.c (.int 0)) (.cons (.c (.int 1)) .nil))) ρ S = some (.tup [.int 0, .int 1], S) := fun ρ => by
    simp only [ev, evs, List.length_cons, List.length_nil, Nat.zero_add, Nat.reduceAdd, two, if_true]
  simp only [e0, items]
  rw [comp2Run_all (h := twoB) (k := 2) (l.map wyT) [] (fun d hd => by
    obtain ⟨p, hpl, rfl⟩ := List.mem_map.mp hd
    refine ⟨by rw [twoB_wy]; rfl, [.int 0, .int 1], _, by simp only [setT, e1, items]; rfl, fun acc ha => ?_⟩
    have f1 := add_bit (F := F) (S := S) (v0 := v0) (v1 := some (.lst (l.map wyT))) (v2 := v2) p false (hp p hpl)
    have f2 := add_bit (F := F) (S := S) (v0 := v0) (v1 := some (.lst (l.map wyT))) (v2 := v2) p true (hp p hpl)
    simp only [bit, if_true, Bool.false_eq_true, if_false] at f1 f2
    have sm1 : small (acc.length + 1) = true := decide_eq_true (by omega)
    have sm2 : small (acc.length + 1 + 1) = true := decide_eq_true (by omega)
    simp only [compRun, setT, wipeT, List.set_cons_succ, List.set_cons_zero, f1, f2, sm1, sm2, if_true, List.length_append, List.length_cons, List.length_nil, Nat.zero_add, twoB_wy, List.append_assoc, List.cons_append, List.nil_append]) (by rw [List.length_map, List.length_nil]; omega)]
  rw [List.nil_append, flat_two]
  rfl
theorem chs_in : ∀ m, ∀ p ∈ chs m, p.length = m
  | 0, p, h => by cases h with | head => rfl | tail _ h => cases h
  | m + 1, p, h => by
    obtain ⟨q, hq, hp⟩ := List.mem_flatMap.mp h
    have := chs_in m q hq
    simp only [List.mem_cons, List.not_mem_nil, or_false] at hp
    rcases hp with rfl | rfl <;> rw [List.length_append, this] <;> rfl
def chB : Ss := (.cons (.asg (.n 1) chI) .nil)
theorem ch_loop {F : CF} {v0 v3 v4 : Option D} : ∀ (ds : List D) (m : Nat) (v2 : Option D), m + ds.length ≤ 8 → ∃ v2', forRun (.n 2) (fun ρ S => exs F w chB ρ S) ds [v0, some (.lst ((chs m).map wyT)), v2, v3, v4] S = some (.nx [v0, some (.lst ((chs (m + ds.length)).map wyT)), v2', v3, v4], S)
  | [], m, v2, _ => ⟨v2, rfl⟩
  | d :: ds, m, v2, h => by
    rw [List.length_cons] at h
    obtain ⟨v2', ih⟩ := ch_loop (F := F) (v0 := v0) (v3 := v3) (v4 := v4) ds (m + 1) (some d) (by omega)
    refine ⟨v2', ?_⟩
    have hc : (chs m).length ≤ 400 := by rw [chs_len]; exact Nat.le_trans (Nat.pow_le_pow_right (by decide) (show m ≤ 8 by omega)) (by decide)
    have e := ch_turn (F := F) (S := S) (v0 := v0) (v2 := some d) (v3 := v3) (v4 := v4) (chs m) (fun p hp => by rw [chs_in m p hp]; omega) hc
    simp only [forRun, setT, List.set_cons_succ, List.set_cons_zero, chB, exs, ex, e]
    rw [show m + (d :: ds).length = m + 1 + ds.length by rw [List.length_cons]; omega]
    exact ih
theorem rng_ok {F : CF} {ρ : Iv.Env} {i : Nat} {m : Nat} (h : ρ[i]? = some (some (.int m))) (hm : m ≤ 100000) : ev F (.rng (.c (.int 0)) (.v i)) ρ S = some (.lst ((List.range m).map fun (k : Nat) => .int (0 + k)), S) := by
  have g1 : (decide (-(2 ^ 62) ≤ (0 : Int)) && decide ((0 : Int) < 2 ^ 62) && decide (-(2 ^ 62) ≤ (m : Int)) && decide ((m : Int) < 2 ^ 62)) = true := by
    simp only [Bool.and_eq_true, decide_eq_true_eq]; omega
  have g2 : ((m : Int) - 0).toNat = m := by omega
  rw [ev]
  simp only [ev, h]
  rw [if_pos g1, g2]
theorem choices {m : Nat} (hm : m ≤ 3) : run T w (n + 5) 11 [.int m] S = some (.tup ((chs m).map wyT), S) := by
  refine run_rts t11 rfl rfl ?_
  obtain ⟨y, e⟩ := ch_loop (w := w) (S := S) (F := run T w (n + 4)) (v0 := some (.int m)) (v3 := none) (v4 := none) ((List.range m).map fun (k : Nat) => D.int (0 + k)) 0 none (by simp; omega)
  have hl : 0 + ((List.range m).map fun (k : Nat) => D.int (0 + k)).length = m := by simp
  rw [hl] at e
  have e1 := need_many (w := w) (n := n) (S := S) (m := m) (by omega) (by omega)
  have one : small 1 = true := rfl
  have zer : small 0 = true := rfl
  have s1 : ex (run T w (n + 4)) w (.ex (.call 4 (.cons (.v 0) .nil))) [some (.int m), none, none, none, none] S = some (.nx [some (.int m), none, none, none, none], S) := by
    simp only [ex, ev, evs, List.getElem?_cons_zero, e1]
  have s2 : ex (run T w (n + 4)) w (.asg (.n 1) (.lst (.cons (.tup .nil) .nil))) [some (.int m), none, none, none, none] S = some (.nx [some (.int m), some (.lst ((chs 0).map wyT)), none, none, none], S) := by
    simp only [ex, evs, ev, List.length_nil, List.length_cons, Nat.zero_add, one, zer, if_true, setT, List.set_cons_succ, List.set_cons_zero]
    rfl
  have s3 : ex (run T w (n + 4)) w (.for (.n 2) (.rng (.c (.int 0)) (.v 0)) chB) [some (.int m), some (.lst ((chs 0).map wyT)), none, none, none] S = some (.nx [some (.int m), some (.lst ((chs m).map wyT)), y, none, none], S) := by
    rw [ex, rng_ok (m := m) rfl (by omega)]
    simp only [items]
    exact e
  have s4 : ex (run T w (n + 4)) w (.ret (.bi .tuple (.cons (.v 1) .nil))) [some (.int m), some (.lst ((chs m).map wyT)), y, none, none] S = some (.rt (.tup ((chs m).map wyT)), S) := by
    simp only [exs, ex, ev, evs, List.getElem?_cons_succ, List.getElem?_cons_zero, seeAll, see, biD]
  have e3 : b_choices = .cons (.ex (.call 4 (.cons (.v 0) .nil))) (.cons (.asg (.n 1) (.lst (.cons (.tup .nil) .nil))) (.cons (.for (.n 2) (.rng (.c (.int 0)) (.v 0)) chB) (.cons (.ret (.bi .tuple (.cons (.v 1) .nil))) .nil))) := rfl
  show exs _ _ b_choices [some (.int m), none, none, none, none] S = _
  rw [e3, exs, s1]
  simp only []
  rw [exs, s2]
  simp only []
  rw [exs, s3]
  simp only []
  rw [exs, s4]

end Lk52

set_option Elab.async false
set_option linter.all false
set_option maxRecDepth 100000
set_option maxHeartbeats 4000000
namespace Lk52
open PySem Iv
variable {w n : Nat} {S : Sto}
theorem isObj_ints : ∀ c : List Int, isObj (c.map D.int) = false
  | [] => rfl
  | _ :: _ => rfl
theorem run_app {f : Nat} {fn : Fn} {ds : List D} {X : Sto} {d : D} (h : T[f]? = some fn) (hl : ds.length = fn.ar) (hc : clo S) (hd : D.pure d = true) (e : exs (run T w n) w fn.body (ds.map some ++ List.replicate (fn.sl - fn.ar) none) S = some (.rt d, S ++ X)) : run T w (n + 1) f ds S = some (d, S) := run_rtc h hl hc hd e
def powT : Ss := (.cons (.asg (.n 2) (.op .Mult (.v 2) (.v 0))) .nil)
def powB : Ss := (.cons (.asg (.n 2) (.c (.int 1))) (.cons (.for (.n 3) (.rng (.c (.int 0)) (.v 1)) powT) (.cons (.ret (.v 2)) .nil)))
theorem op_mulW {i j K : Nat} (h1 : i < 2 ^ K) (h2 : j < 2 ^ K) (hK : K ≤ 400000) : opD .Mult (.int (i : Int)) (.int (j : Int)) = some (.int ((i * j : Nat) : Int)) := by
  have hp : 2 ^ K ≤ 2 ^ 400000 := Nat.pow_le_pow_right (by decide) hK
  show (if _ then _ else _) = _
  rw [if_pos ?_, Int.natCast_mul]
  rw [Bool.or_eq_true, Bool.and_eq_true, decide_eq_true_eq, decide_eq_true_eq]
  exact .inr ⟨Nat.lt_of_lt_of_le (by simpa using h1) hp, Nat.lt_of_lt_of_le (by simpa using h2) hp⟩
theorem pow_le {x a : Nat} (hx : x ≤ 2 ^ a) (t : Nat) : x ^ t ≤ 2 ^ (a * t) := by
  rw [Nat.pow_mul]
  exact Nat.pow_le_pow_left hx t
theorem pow_loop {F : CF} {x a : Nat} {v1 : Option D} (hx : x ≤ 2 ^ a) (ha : 1 ≤ a) : ∀ (ds : List D) (j : Nat) (v3 : Option D), a * (j + ds.length) ≤ 399000 → a ≤ 399000 → ∃ v3', forRun (.n 3) (fun ρ S => exs F w powT ρ S) ds [some (.int x), v1, some (.int (x ^ j : Nat)), v3] S = some (.nx [some (.int x), v1, some (.int (x ^ (j + ds.length) : Nat)), v3'], S)
  | [], j, v3, _, _ => ⟨v3, rfl⟩
  | d :: ds, j, v3, h, h2 => by
    rw [List.length_cons] at h
    obtain ⟨v3', ih⟩ := pow_loop (F := F) (x := x) (a := a) (v1 := v1) hx ha ds (j + 1) (some d) (by rw [show j + 1 + ds.length = j + (ds.length + 1) by omega]; exact h) h2
    refine ⟨v3', ?_⟩
    have b1 : a * j ≤ 399000 := Nat.le_trans (Nat.mul_le_mul_left _ (by omega)) h
    have e := op_mulW (i := x ^ j) (j := x) (K := 399001) (Nat.lt_of_le_of_lt (pow_le hx j) (Nat.pow_lt_pow_right (by decide) (by omega))) (Nat.lt_of_le_of_lt hx (Nat.pow_lt_pow_right (by decide) (by omega))) (by omega)
    rw [← Nat.pow_succ] at e
    rw [show j + (d :: ds).length = j + 1 + ds.length by rw [List.length_cons]; omega, ← ih]
    rw [forRun]
    simp only [setT, List.set_cons_succ, List.set_cons_zero, powT, exs, ex, ev, List.getElem?_cons_succ, List.getElem?_cons_zero, see, e]
theorem pow_run {f x t a : Nat} (hT : T[f]? = some ⟨2, 4, powB⟩) (hx : x ≤ 2 ^ a) (ha : 1 ≤ a) (ht : t ≤ 100000) (h : a * t ≤ 399000) (h2 : a ≤ 399000) : run T w (n + 1) f [.int x, .int t] S = some (.int (x ^ t : Nat), S) := by
  refine run_rts hT rfl rfl ?_
  obtain ⟨y, e⟩ := pow_loop (w := w) (S := S) (F := run T w n) (x := x) (a := a) (v1 := some (.int t)) hx ha ((List.range t).map fun (k : Nat) => D.int (0 + k)) 0 none (by simpa using h) h2
  have hl : 0 + ((List.range t).map fun (k : Nat) => D.int (0 + k)).length = t := by simp
  rw [hl] at e
  have s1 : ex (run T w n) w (.asg (.n 2) (.c (.int 1))) [some (.int x), some (.int t), none, none] S = some (.nx [some (.int x), some (.int t), some (.int (x ^ 0 : Nat)), none], S) := by
    simp [ex, ev, setT]
  have s2 : ex (run T w n) w (.for (.n 3) (.rng (.c (.int 0)) (.v 1)) powT) [some (.int x), some (.int t), some (.int (x ^ 0 : Nat)), none] S = some (.nx [some (.int x), some (.int t), some (.int (x ^ t : Nat)), y], S) := by
    rw [ex, rng_ok (m := t) rfl ht]
    simp only [items]
    exact e
  show exs _ _ powB [some (.int x), some (.int t), none, none] S = _
  rw [powB, exs, s1]
  simp only []
  rw [exs, s2]
  simp only [exs, ex, ev, List.getElem?_cons_succ, List.getElem?_cons_zero]
theorem raised_ok {x t a : Nat} (hx : x ≤ 2 ^ a) (ha : 1 ≤ a) (ht : t ≤ 100000) (h : a * t ≤ 399000) (h2 : a ≤ 399000) : run T w (n + 1) 40 [.int x, .int t] S = some (.int (x ^ t : Nat), S) := pow_run t40 hx ha ht h h2
theorem lpow_ok {x t a : Nat} (hx : x ≤ 2 ^ a) (ha : 1 ≤ a) (ht : t ≤ 100000) (h : a * t ≤ 399000) (h2 : a ≤ 399000) : run T w (n + 1) 56 [.int x, .int t] S = some (.int (x ^ t : Nat), S) := pow_run t56 hx ha ht h h2
theorem often_ok {x t a : Nat} (hx : x ≤ 2 ^ a) (ha : 1 ≤ a) (ht : t ≤ 100000) (h : a * t ≤ 399000) (h2 : a ≤ 399000) : run T w (n + 1) 17 [.int x, .int t] S = some (.int (x ^ t : Nat), S) := pow_run t17 hx ha ht h h2
def nb (v : Nat) : Nat := Builtin.Int.intBits (v : Int)
theorem bits_ok {v : Nat} : run T w (n + 1) 41 [.int v] S = some (.int (nb v : Nat), S) :=
  run_rts t41 rfl rfl (by simp [b_steps_of_places, exs, ex, ev, nb])
theorem nb_eq {v : Nat} (h : 1 ≤ v) : nb v = v.log2 + 1 := by
  unfold nb Builtin.Int.intBits
  rw [if_neg (by simp; omega)]
  simp
def ones : List Bool → Nat
  | [] => 0
  | c :: r => (if c then 1 else 0) + ones r
def spr (ws : List Int) : List Bool → Nat → List Int
  | [], _ => []
  | false :: r, k => 0 :: spr ws r k
  | true :: r, k => ws.getD k 0 :: spr ws r (k + 1)
theorem ones_le : ∀ c : List Bool, ones c ≤ c.length
  | [] => Nat.le_refl _
  | c :: r => by
    have := ones_le r
    cases c <;> simp only [ones, List.length_cons, if_true, Bool.false_eq_true, if_false] <;> omega
def spT : Ss := (.cons (.ex (.meth .append (.v 2) (.cons (.ite (.cmp .Eq (.v 4) (.c (.int 1))) (.ix (.v 1) (.v 3)) (.c (.int 0))) .nil))) (.cons (.asg (.n 3) (.op .Add (.v 3) (.v 4))) .nil))
theorem get_end {S : Sto} {x : Option (List D)} : (S ++ [x])[S.length]? = some x := by
  rw [List.getElem?_append_right (Nat.le_refl _), Nat.sub_self]
  rfl
theorem set_end {S : Sto} {x y : Option (List D)} : (S ++ [x]).set S.length y = S ++ [y] := by
  rw [List.set_append_right _ _ (Nat.le_refl _), Nat.sub_self]
  rfl
def nextF (b : Bool) (ws : List Int) (k : Nat) : Int := if b then ws.getD k 0 else 0
theorem see_int {S : Sto} {i : Int} : see S (.int i) = some (.int i) := rfl
theorem see_end {S : Sto} {x : List Int} : see (S ++ [some (x.map D.int)]) (.ref S.length) = some (.lst (x.map D.int)) := by
  simp only [see, get_end, isObj_ints, Bool.false_eq_true, if_false]
theorem sp_turn {F : CF} {v0 : Option D} {wd : D} {ws : List Int} (hw : ∀ X, see (S ++ X) wd = some (.lst (ws.map D.int))) (b : Bool) (k : Nat) (fs : List Int) (h : k < ws.length ∨ b = false) (hl : fs.length < 1000) :
    exs F w spT [v0, some wd, some (.ref S.length), some (.int k), some (.int (bit b))] (S ++ [some (fs.map D.int)]) = some (.nx [v0, some wd, some (.ref S.length), some (.int ((k + (if b then 1 else 0) : Nat) : Int)), some (.int (bit b))], S ++ [some ((fs ++ [nextF b ws k]).map D.int)]) := by
  have sm : small (fs.length + 1) = true := decide_eq_true (by omega)
  cases b with
  | false =>
    have z : cmpD .Eq (.int 0) (.int 1) = some false := rfl
    simp only [spT, exs, ex, ev, evs, bit, Bool.false_eq_true, if_false, List.getElem?_cons_succ, List.getElem?_cons_zero, see, get_end, isObj_ints, Bool.not_false, Bool.true_and, z, meD, List.length_map, sm, if_true, set_end, Option.isSome, op_add, Int.add_zero, setT, List.set_cons_succ, List.set_cons_zero, nextF, List.map_append, List.map_cons, List.map_nil, Nat.add_zero]
  | true =>
    have hk : k < ws.length := h.resolve_right (by simp)
    have z : cmpD .Eq (.int 1) (.int 1) = some true := rfl
    have z2 : ixD (.lst (ws.map D.int)) (.int (k : Int)) = some (.int (ws.getD k 0)) := by
      show L2.atI (ws.map D.int) (k : Int) = _
      rw [atI_nat (by simpa using hk), List.getElem?_map, List.getElem?_eq_getElem hk, List.getD_eq_getElem?_getD, List.getElem?_eq_getElem hk]
      rfl
    have z3 : ((k : Int) + 1) = ((k + 1 : Nat) : Int) := by omega
    simp only [spT, exs, ex, ev, evs, bit, if_true, List.getElem?_cons_succ, List.getElem?_cons_zero, see_int, see_end, get_end, isObj_ints, Bool.not_false, Bool.true_and, Bool.false_eq_true, if_false, z, hw, z2, meD, List.length_map, sm, set_end, Option.isSome, op_add, z3, setT, List.set_cons_succ, List.set_cons_zero, nextF, List.map_append, List.map_cons, List.map_nil]
theorem sp_loop {F : CF} {v0 : Option D} {wd : D} {ws : List Int} (hw : ∀ X, see (S ++ X) wd = some (.lst (ws.map D.int))) : ∀ (c : List Bool) (k : Nat) (fs : List Int) (v4 : Option D), k + ones c ≤ ws.length → fs.length + c.length ≤ 1000 →
    ∃ v3' v4', forRun (.n 4) (fun ρ S => exs F w spT ρ S) (c.map fun b => D.int (bit b)) [v0, some wd, some (.ref S.length), some (.int k), v4] (S ++ [some (fs.map D.int)]) = some (.nx [v0, some wd, some (.ref S.length), v3', v4'], S ++ [some ((fs ++ spr ws c k).map D.int)])
  | [], k, fs, v4, _, _ => ⟨some (.int k), v4, by simp [forRun, spr]⟩
  | b :: c, k, fs, v4, h, hl => by
    rw [List.length_cons] at hl
    have hk : k < ws.length ∨ b = false := by
      cases b with
      | false => exact .inr rfl
      | true => simp only [ones, if_true] at h; exact .inl (by omega)
    obtain ⟨x3, x4, ih⟩ := sp_loop (F := F) (v0 := v0) hw c (k + (if b then 1 else 0)) (fs ++ [nextF b ws k]) (some (.int (bit b))) (by simp only [ones] at h; omega) (by rw [List.length_append]; simp only [List.length_cons, List.length_nil]; omega)
    refine ⟨x3, x4, ?_⟩
    have e := sp_turn (F := F) (w := w) (v0 := v0) hw b k fs hk (by omega)
    rw [List.map_cons, forRun]
    simp only [setT, List.set_cons_succ, List.set_cons_zero, e]
    rw [ih]
    have : fs ++ spr ws (b :: c) k = (fs ++ [nextF b ws k]) ++ spr ws c (k + (if b then 1 else 0)) := by cases b <;> simp [spr, nextF]
    rw [this]
theorem spread_ok {wd : D} {ws : List Int} {c : List Bool} (hc : clo S) (hw : ∀ X, see (S ++ X) wd = some (.lst (ws.map D.int))) (h : ones c ≤ ws.length) (hl : c.length ≤ 900) : run T w (n + 1) 42 [wyT c, wd] S = some (.tup ((spr ws c 0).map D.int), S) := by
  obtain ⟨x3, x4, e⟩ := sp_loop (w := w) (F := run T w n) (v0 := some (wyT c)) hw c 0 [] none (by omega) (by rw [List.length_nil]; omega)
  refine run_app (X := [some ((spr ws c 0).map D.int)]) t42 rfl hc (by rw [D.pure]; exact pures_ints _) ?_
  have s1 : ex (run T w n) w (.par [2, 3] (.cons (.new .nil) (.cons (.c (.int 0)) .nil))) [some (wyT c), some wd, none, none, none] S = some (.nx [some (wyT c), some wd, some (.ref S.length), some (.int (0 : Nat)), none], S ++ [some (([] : List Int).map D.int)]) := by
    have zer : small 0 = true := rfl
    simp [ex, ev, evs, mkList, zer]
  have s2 : ex (run T w n) w (.for (.n 4) (.v 0) spT) [some (wyT c), some wd, some (.ref S.length), some (.int (0 : Nat)), none] (S ++ [some (([] : List Int).map D.int)]) = some (.nx [some (wyT c), some wd, some (.ref S.length), x3, x4], S ++ [some ((spr ws c 0).map D.int)]) := by
    rw [ex]
    simp only [ev, List.getElem?_cons_zero, wyT, items]
    exact e
  have e3 : b_spread = .cons (.par [2, 3] (.cons (.new .nil) (.cons (.c (.int 0)) .nil))) (.cons (.for (.n 4) (.v 0) spT) (.cons (.ret (.bi .tuple (.cons (.v 2) .nil))) .nil)) := rfl
  show exs _ _ b_spread [some (wyT c), some wd, none, none, none] S = _
  rw [e3, exs, s1]
  simp only []
  rw [exs, s2]
  simp only [exs, ex, ev, evs, List.getElem?_cons_succ, List.getElem?_cons_zero, seeAll, see, get_end, isObj_ints, Bool.false_eq_true, if_false, biD]
def firstQ (c : List Bool) : List Int := c.map fun b => 2 * bit b
def secQ (v b : Nat) : List Bool → Nat → List Int
  | [], _ => []
  | false :: r, t => 0 :: secQ v b r t
  | true :: r, t => (((v + 1) ^ t : Nat) : Int) :: secQ v b r (t * b)
def wl (v b j : Nat) : List Int := (List.range (j + 1)).map fun i => (((v + 1) ^ (b ^ i) : Nat) : Int)
theorem spr_two : ∀ (c : List Bool) (k m : Nat), k + ones c ≤ m → spr (List.replicate m 2) c k = firstQ c
  | [], _, _, _ => rfl
  | false :: c, k, m, h => by
    simp only [ones, Bool.false_eq_true, if_false] at h
    simp only [spr, firstQ, List.map_cons, bit, Bool.false_eq_true, if_false]
    rw [spr_two c k m (by omega)]
    rfl
  | true :: c, k, m, h => by
    simp only [ones, if_true] at h
    have : (List.replicate m (2 : Int)).getD k 0 = 2 := by
      rw [List.getD_eq_getElem?_getD, List.getElem?_replicate, if_pos (by omega)]
      rfl
    simp only [spr, firstQ, List.map_cons, bit, if_true, this]
    rw [spr_two c (k + 1) m (by omega)]
    rfl
theorem spr_sec (v b j : Nat) : ∀ (c : List Bool) (k : Nat), k + ones c ≤ j + 1 → spr (wl v b j) c k = secQ v b c (b ^ k)
  | [], _, _ => rfl
  | false :: c, k, h => by
    simp only [ones, Bool.false_eq_true, if_false] at h
    simp only [spr, secQ]
    rw [spr_sec v b j c k (by omega)]
  | true :: c, k, h => by
    simp only [ones, if_true] at h
    have : (wl v b j).getD k 0 = (((v + 1) ^ (b ^ k) : Nat) : Int) := by
      rw [List.getD_eq_getElem?_getD, wl, List.getElem?_map, List.getElem?_range (by omega)]
      rfl
    simp only [spr, secQ, this]
    rw [spr_sec v b j c (k + 1) (by omega), Nat.pow_succ]
end Lk52

set_option Elab.async false
set_option linter.all false
set_option maxRecDepth 100000
set_option maxHeartbeats 4000000
namespace Lk52
open PySem Iv
variable {w n : Nat} {S : Sto}
theorem unders_ints (m : Nat) : ∀ c : List Int, D.unders m (c.map D.int) = true
  | [] => rfl
  | _ :: c => by
    show (true && D.unders m (c.map D.int)) = true
    rw [unders_ints m c]
    rfl
theorem clo_i {c : List Int} (h : clo S) : clo (S ++ [some (c.map D.int)]) := clo_one h (pures_ints c)
theorem atI_last {α : Type} {xs : List α} {m : Nat} (h : xs.length = m + 1) : L2.atI xs (-1) = xs[m]? := by
  have e : L2.ixN (m + 1) (-1) = some m := by
    unfold L2.ixN
    rw [if_neg (by omega), if_pos (by omega)]
    congr 1
    omega
  unfold L2.atI
  rw [h, e]
  rfl
theorem sum_bits : ∀ c : List Bool, (c.map bit).sum = (ones c : Int)
  | [] => rfl
  | b :: c => by
    rw [List.map_cons, List.sum_cons, sum_bits c]
    cases b <;> simp [bit, ones]
theorem ints_map : ∀ c : List Int, ints? (c.map D.int) = some c
  | [] => rfl
  | x :: c => by simp [ints?, ints_map c]
theorem sum_wy (c : List Bool) : biD .sum [wyT c] = some (.int (ones c)) := by
  show (ints? (c.map fun b => D.int (bit b))).map _ = _
  rw [map_bit, ints_map, Option.map_some, sum_bits]
def seT : Ss := (.cons (.ex (.meth .append (.v 2) (.cons (.call 40 (.cons (.ix (.v 2) (.neg (.c (.int 1)))) (.cons (.call 41 (.cons (.v 1) .nil)) .nil))) .nil))) .nil)
theorem wl_len (v b j : Nat) : (wl v b j).length = j + 1 := by rw [wl, List.length_map, List.length_range]
theorem wl_succ (v b j : Nat) : wl v b (j + 1) = wl v b j ++ [(((v + 1) ^ (b ^ (j + 1)) : Nat) : Int)] := by
  rw [wl, List.range_succ, List.map_append]
  rfl
theorem bound (v : Nat) (h1 : 1 ≤ v) : v + 1 ≤ 2 ^ nb v := by
  rw [nb_eq h1]
  exact Nat.lt_log2_self
theorem se_turn {v0 v3 : Option D} {v j : Nat} (h1 : 1 ≤ v) (hb : nb v ≤ 60) (hj : j ≤ 1) :
    exs (run T w (n + 1)) w seT [v0, some (.int v), some (.ref S.length), v3] (S ++ [some ((wl v (nb v) j).map D.int)]) = some (.nx [v0, some (.int v), some (.ref S.length), v3], S ++ [some ((wl v (nb v) (j + 1)).map D.int)]) := by
  have hp := bound v h1
  have b1 : 1 ≤ nb v := by rw [nb_eq h1]; omega
  have z1 : ixD (.lst ((wl v (nb v) j).map D.int)) (.int (-1)) = some (.int (((v + 1) ^ (nb v ^ j) : Nat) : Int)) := by
    show L2.atI _ (-1) = _
    rw [atI_last (m := j) (by rw [List.length_map, wl_len]), List.getElem?_map, wl, List.getElem?_map, List.getElem?_range (by omega)]
    rfl
  have q1 : nb v * nb v ^ j ≤ 3600 := by
    have : nb v ^ j ≤ 60 := by
      rcases (show j = 0 ∨ j = 1 by omega) with rfl | rfl
      · simp
      · simpa using hb
    exact Nat.le_trans (Nat.mul_le_mul hb this) (by decide)
  have q2 : 1 ≤ nb v * nb v ^ j := Nat.mul_pos b1 (Nat.pow_pos b1)
  have e := raised_ok (w := w) (n := n) (S := S ++ [some ((wl v (nb v) j).map D.int)]) (x := (v + 1) ^ (nb v ^ j)) (t := nb v) (a := nb v * nb v ^ j) (pow_le hp _) q2 (by omega) (Nat.le_trans (Nat.mul_le_mul q1 hb) (by decide)) (by omega)
  rw [← Nat.pow_mul, ← Nat.pow_succ] at e
  have e2 := bits_ok (w := w) (n := n) (S := S ++ [some ((wl v (nb v) j).map D.int)]) (v := v)
  have sm : small (j + 1 + 1) = true := decide_eq_true (by omega)
  rw [wl_succ, List.map_append]
  simp only [seT, exs, ex, ev, evs, List.getElem?_cons_succ, List.getElem?_cons_zero, see_end, Option.isSome, if_true, z1, e2, e, meD, get_end, isObj_ints, Bool.not_false, Bool.true_and, Bool.false_eq_true, if_false, List.length_map, wl_len, sm, set_end, List.map_cons, List.map_nil]
theorem se_loop {v0 : Option D} {v : Nat} (h1 : 1 ≤ v) (hb : nb v ≤ 60) : ∀ (ds : List D) (j : Nat) (v3 : Option D), j + ds.length ≤ 2 → ∃ v3', forRun (.n 3) (fun ρ S => exs (run T w (n + 1)) w seT ρ S) ds [v0, some (.int v), some (.ref S.length), v3] (S ++ [some ((wl v (nb v) j).map D.int)]) = some (.nx [v0, some (.int v), some (.ref S.length), v3'], S ++ [some ((wl v (nb v) (j + ds.length)).map D.int)])
  | [], j, v3, _ => ⟨v3, rfl⟩
  | d :: ds, j, v3, h => by
    rw [List.length_cons] at h
    obtain ⟨y, ih⟩ := se_loop (v0 := v0) (v := v) h1 hb ds (j + 1) (some d) (by omega)
    refine ⟨y, ?_⟩
    have e := se_turn (w := w) (n := n) (S := S) (v0 := v0) (v3 := some d) (v := v) (j := j) h1 hb (by omega)
    rw [forRun]
    simp only [setT, List.set_cons_succ, List.set_cons_zero, e]
    rw [ih, show j + (d :: ds).length = j + 1 + ds.length by rw [List.length_cons]; omega]
theorem rng1_ok {F : CF} {ρ : Iv.Env} {e : E} {m : Nat} (h : ev F e ρ S = some (.int m, S)) (hm : m ≤ 100000) : ev F (.rng (.c (.int 1)) e) ρ S = some (.lst ((List.range (m - 1)).map fun (k : Nat) => .int (1 + k)), S) := by
  have g1 : (decide (-(2 ^ 62) ≤ (1 : Int)) && decide ((1 : Int) < 2 ^ 62) && decide (-(2 ^ 62) ≤ (m : Int)) && decide ((m : Int) < 2 ^ 62)) = true := by
    simp only [Bool.and_eq_true, decide_eq_true_eq]; omega
  have g2 : ((m : Int) - 1).toNat = m - 1 := by omega
  rw [ev]
  simp only [ev, h]
  rw [if_pos g1, g2]
theorem second_ok {v : Nat} {c : List Bool} (hc : clo S) (h1 : 1 ≤ v) (hb : nb v ≤ 60) (hl : c.length ≤ 3) (ho : 1 ≤ ones c) : run T w (n + 2) 43 [wyT c, .int v] S = some (.tup ((secQ v (nb v) c 1).map D.int), S) := by
  have hoc := ones_le c
  obtain ⟨y, e⟩ := se_loop (w := w) (n := n) (S := S) (v0 := some (wyT c)) (v := v) h1 hb ((List.range (ones c - 1)).map fun (k : Nat) => D.int (1 + k)) 0 none (by rw [List.length_map, List.length_range]; omega)
  rw [List.length_map, List.length_range, show 0 + (ones c - 1) = ones c - 1 by omega] at e
  have s1 : ex (run T w (n + 1)) w (.asg (.n 2) (.new (.cons (.op .Add (.v 1) (.c (.int 1))) .nil))) [some (wyT c), some (.int v), none, none] S = some (.nx [some (wyT c), some (.int v), some (.ref S.length), none], S ++ [some ((wl v (nb v) 0).map D.int)]) := by
    have one : small 1 = true := rfl
    have z : wl v (nb v) 0 = [(v : Int) + 1] := by
      have q : ((v + 1) ^ (nb v ^ 0) : Nat) = v + 1 := by rw [Nat.pow_zero, Nat.pow_one]
      show [(((v + 1) ^ (nb v ^ 0) : Nat) : Int)] = _
      rw [q]
      rfl
    simp only [ex, ev, evs, List.getElem?_cons_succ, List.getElem?_cons_zero, see_int, op_add, List.length_cons, List.length_nil, Nat.zero_add, one, if_true, mkList, setT, List.set_cons_succ, List.set_cons_zero, z, List.map_cons, List.map_nil]
  have s2 : ex (run T w (n + 1)) w (.for (.n 3) (.rng (.c (.int 1)) (.bi .sum (.cons (.v 0) .nil))) seT) [some (wyT c), some (.int v), some (.ref S.length), none] (S ++ [some ((wl v (nb v) 0).map D.int)]) = some (.nx [some (wyT c), some (.int v), some (.ref S.length), y], S ++ [some ((wl v (nb v) (ones c - 1)).map D.int)]) := by
    have q : ev (run T w (n + 1)) (.bi .sum (.cons (.v 0) .nil)) [some (wyT c), some (.int v), some (.ref S.length), none] (S ++ [some ((wl v (nb v) 0).map D.int)]) = some (.int (ones c), S ++ [some ((wl v (nb v) 0).map D.int)]) := by
      simp only [ev, evs, List.getElem?_cons_zero, seeAll, show see (S ++ [some ((wl v (nb v) 0).map D.int)]) (wyT c) = some (wyT c) from rfl, sum_wy]
    rw [ex, rng1_ok q (by omega)]
    simp only [items]
    exact e
  have hc2 : clo (S ++ [some ((wl v (nb v) (ones c - 1)).map D.int)]) := clo_i hc
  have e4 := spread_ok (w := w) (n := n) (S := S ++ [some ((wl v (nb v) (ones c - 1)).map D.int)]) (wd := .ref S.length) (ws := wl v (nb v) (ones c - 1)) (c := c) hc2 (fun X => by
    have : (S ++ [some ((wl v (nb v) (ones c - 1)).map D.int)] ++ X)[S.length]? = some (some ((wl v (nb v) (ones c - 1)).map D.int)) := by
      rw [List.getElem?_append_left (by rw [List.length_append]; simp), get_end]
    simp only [see, this, isObj_ints, Bool.false_eq_true, if_false]) (by rw [wl_len]; omega) (by omega)
  rw [spr_sec v (nb v) (ones c - 1) c 0 (by omega), Nat.pow_zero] at e4
  refine run_app (X := [some ((wl v (nb v) (ones c - 1)).map D.int)]) t43 rfl hc (by rw [D.pure]; exact pures_ints _) ?_
  have e3 : b_second_numbers = .cons (.asg (.n 2) (.new (.cons (.op .Add (.v 1) (.c (.int 1))) .nil))) (.cons (.for (.n 3) (.rng (.c (.int 1)) (.bi .sum (.cons (.v 0) .nil))) seT) (.cons (.ret (.call 42 (.cons (.v 0) (.cons (.v 2) .nil)))) .nil)) := rfl
  show exs _ _ b_second_numbers [some (wyT c), some (.int v), none, none] S = _
  rw [e3, exs, s1]
  simp only []
  rw [exs, s2]
  simp only [exs, ex, ev, evs, List.getElem?_cons_succ, List.getElem?_cons_zero, e4]
theorem cmp_nil (xs : List Int) : cmpD .Eq (.lst (xs.map D.int)) (.lst []) = some (decide (xs = [])) := by
  show (if _ then _ else _) = _
  rw [if_pos (by rw [ok_ints, ok_nil]; rfl), eqv_nil]
  cases xs <;> rfl
theorem next_first {c : List Bool} (hc : clo S) (hl : c.length ≤ 3) : run T w (n + 2) 44 [wyT c, .lst []] S = some (.tup ((firstQ c).map D.int), S) := by
  have e := spread_ok (w := w) (n := n) (S := S) (wd := .lst ((List.replicate c.length (2 : Int)).map D.int)) (ws := List.replicate c.length 2) (c := c) hc (fun X => rfl) (by rw [List.length_replicate]; exact ones_le c) (by omega)
  rw [spr_two c 0 c.length (by have := ones_le c; omega)] at e
  have z1 := cmp_nil []
  have z2 : opD .Mult (.lst [.int 2]) (.int (c.length : Int)) = some (.lst ((List.replicate c.length (2 : Int)).map D.int)) := by
    have g : (small ([D.int 2].length * (c.length : Int).toNat) && (decide (-100000 ≤ (c.length : Int)) && decide ((c.length : Int) ≤ 100000))) = true := by
      rw [Bool.and_eq_true, Bool.and_eq_true, decide_eq_true_eq, decide_eq_true_eq]
      exact ⟨decide_eq_true (by simp only [List.length_cons, List.length_nil]; omega), by omega, by omega⟩
    show (if _ then _ else _) = _
    rw [if_pos g]
    congr 2
    rw [Int.toNat_natCast, List.map_replicate]
    generalize c.length = k
    induction k with
    | zero => rfl
    | succ k ih => rw [List.replicate_succ, List.flatten_cons, ih, List.replicate_succ]; rfl
  have z3 : biD .len [wyT c] = some (.int c.length) := by rw [wyT, len_tup, List.length_map]
  have one : small 1 = true := rfl
  refine run_rts t44 rfl rfl ?_
  have e3 : ∀ (ρ : Iv.Env), ρ[0]? = some (some (wyT c)) → ev (run T w (n + 1)) (.op .Mult (.lst (.cons (.g "FIRST" (.int 2)) .nil)) (.bi .len (.cons (.v 0) .nil))) ρ S = some (.lst ((List.replicate c.length (2 : Int)).map D.int), S) := fun ρ hρ => by
    simp only [ev, evs, hρ, List.length_cons, List.length_nil, Nat.zero_add, one, if_true, seeAll, show see S (wyT c) = some (wyT c) from rfl, z3, see_int, show see S (.lst [.int 2]) = some (.lst [.int 2]) from rfl, z2]
  show exs _ _ b_next_of [some (wyT c), some (.lst [])] S = _
  have s0 : ev (run T w (n + 1)) (.cmp .Eq (.v 1) (.lst .nil)) [some (wyT c), some (.lst [])] S = some (.bl true, S) := by
    have zer : small 0 = true := rfl
    simp only [ev, evs, List.getElem?_cons_succ, List.getElem?_cons_zero, List.length_nil, zer, if_true, see]
    have z1' : cmpD .Eq (.lst []) (.lst []) = some true := z1
    rw [z1']
  have s4 : evs (run T w (n + 1)) (.cons (.v 0) (.cons (.op .Mult (.lst (.cons (.g "FIRST" (.int 2)) .nil)) (.bi .len (.cons (.v 0) .nil))) .nil)) [some (wyT c), some (.lst [])] S = some ([wyT c, .lst ((List.replicate c.length (2 : Int)).map D.int)], S) := by
    rw [evs, ev]
    simp only [List.getElem?_cons_zero]
    rw [evs, e3 _ rfl]
    simp only [evs]
  rw [b_next_of, exs, ex, s0]
  simp only []
  rw [exs, ex, ev, s4]
  simp only [e]
theorem next_at {c : List Bool} {r : Nat} {cur : List Int} (hc : clo S) (hl : c.length ≤ 3) (hr : S[r]? = some (some (cur.map D.int))) (hcur : cur ≠ []) (o : D)
    (ho : (ones c = 0 ∨ cur.length = 2 ∨ (∃ v, cur[0]? = some v ∧ v ≤ 1)) ∧ o = .non ∨ (∃ v : Nat, cur = [(v : Int)] ∧ 2 ≤ v ∧ nb v ≤ 60 ∧ ones c ≠ 0 ∧ o = .tup ((secQ v (nb v) c 1).map D.int))) :
    run T w (n + 3) 44 [wyT c, .ref r] S = some (o, S) := by
  have hs : see S (.ref r) = some (.lst (cur.map D.int)) := by simp only [see, hr, isObj_ints, Bool.false_eq_true, if_false]
  have zer : small 0 = true := rfl
  have s0 : ev (run T w (n + 2)) (.cmp .Eq (.v 1) (.lst .nil)) [some (wyT c), some (.ref r)] S = some (.bl false, S) := by
    simp only [ev, evs, List.getElem?_cons_succ, List.getElem?_cons_zero, List.length_nil, zer, if_true, hs, show see S (.lst []) = some (.lst []) from rfl, cmp_nil, decide_eq_false hcur]
  have s1 : ev (run T w (n + 2)) (.cmp .Eq (.bi .sum (.cons (.v 0) .nil)) (.c (.int 0))) [some (wyT c), some (.ref r)] S = some (.bl (decide (ones c = 0)), S) := by
    have : (decide ((ones c : Int) = 0)) = decide (ones c = 0) := by rw [decide_eq_decide]; omega
    simp only [ev, evs, List.getElem?_cons_zero, seeAll, show see S (wyT c) = some (wyT c) from rfl, sum_wy, see_int, cmpD, this]
  have s2 : ev (run T w (n + 2)) (.cmp .Eq (.bi .len (.cons (.v 1) .nil)) (.c (.int 2))) [some (wyT c), some (.ref r)] S = some (.bl (decide (cur.length = 2)), S) := by
    have : (decide ((cur.length : Int) = 2)) = decide (cur.length = 2) := by rw [decide_eq_decide]; omega
    simp only [ev, evs, List.getElem?_cons_succ, List.getElem?_cons_zero, seeAll, hs, len_lst, List.length_map, see_int, cmpD, this]
  obtain ⟨v0, rest, rfl⟩ := List.exists_cons_of_ne_nil hcur
  have s3 : ev (run T w (n + 2)) (.cmp .LtE (.ix (.v 1) (.c (.int 0))) (.c (.int 1))) [some (wyT c), some (.ref r)] S = some (.bl (decide (v0 ≤ 1)), S) := by
    have z : ixD (.lst ((v0 :: rest).map D.int)) (.int 0) = some (.int v0) := by
      show L2.atI _ ((0 : Nat) : Int) = _
      rw [atI_nat (by simp)]
      rfl
    simp only [ev, List.getElem?_cons_succ, List.getElem?_cons_zero, hs, z, see_int, cmpD]
  refine run_rts t44 rfl rfl ?_
  show exs _ _ b_next_of [some (wyT c), some (.ref r)] S = _
  rw [b_next_of, exs, ex, s0]
  simp only [exs]
  rw [ex, ev, s1]
  by_cases o1 : ones c = 0
  · have ho' : o = .non := by
      rcases ho with ⟨_, h⟩ | ⟨v, _, _, _, h, _⟩
      · exact h
      · exact absurd o1 h
    subst ho'
    simp only [decide_eq_true o1, exs, ex, ev]
  · simp only [decide_eq_false o1]
    rw [ev, s2]
    by_cases o2 : (v0 :: rest).length = 2
    · have ho' : o = .non := by
        rcases ho with ⟨_, h⟩ | ⟨v, h, _⟩
        · exact h
        · rw [h] at o2; cases o2
      subst ho'
      simp only [decide_eq_true o2, exs, ex, ev]
    · simp only [decide_eq_false o2]
      rw [s3]
      rcases ho with ⟨h, rfl⟩ | ⟨v, h1, h2, h3, h4, rfl⟩
      · have hv : v0 ≤ 1 := by
          rcases h with h | h | ⟨v, h, h'⟩
          · exact absurd h o1
          · exact absurd h o2
          · cases h; exact h'
        simp only [decide_eq_true hv, exs, ex, ev]
      · injection h1 with h1 h1'
        subst h1 h1'
        have hv : ¬ ((v : Int) ≤ 1) := by omega
        have e := second_ok (w := w) (n := n) (S := S) (v := v) (c := c) hc (by omega) h3 hl (by omega)
        have z : ixD (.lst ([(v : Int)].map D.int)) (.int 0) = some (.int v) := rfl
        simp only [decide_eq_false hv, exs, ex, ev, evs, List.getElem?_cons_succ, List.getElem?_cons_zero, hs, z, e]
end Lk52

set_option Elab.async false
set_option linter.all false
set_option maxRecDepth 100000
set_option maxHeartbeats 4000000
namespace Lk52
open PySem Iv
variable {w n : Nat} {S : Sto}
def mosts : Nat → Nat
  | 1 => 10 ^ 18
  | 2 => 10 ^ 4
  | 3 => 200
  | _ => 0
theorem need_small {v k : Nat} (hk : k ≤ 3) (h : k = 0 ∨ v ≤ mosts k) : run T w (n + 1) 45 [.int v, .int k] S = some (.non, S) := by
  have key : ∀ m : Nat, mosts k = m → k ≠ 0 → ixD (.tup [.non, (.int 1000000000000000000), (.int 10000), (.int 200)]) (.int k) = some (.int m) → run T w (n + 1) 45 [.int v, .int k] S = some (.non, S) := fun m hm hk0 hix => by
    have hv : ¬ ((m : Int) < (v : Int)) := by
      have := h.resolve_left hk0
      rw [hm] at this
      omega
    refine run_nxs (ρ := [some (.int v), some (.int k), some (.int m)]) t45 rfl rfl ?_
    simp [b_need_small, exs, ex, ev, see, hix, setT, cmpD, hv]
  rcases (show k = 0 ∨ k = 1 ∨ k = 2 ∨ k = 3 by omega) with rfl | rfl | rfl | rfl
  · refine run_nxs (ρ := [some (.int v), some (.int (0 : Nat)), some .non]) t45 rfl rfl ?_
    have hix : ixD (.tup [.non, (.int 1000000000000000000), (.int 10000), (.int 200)]) (.int (0 : Nat)) = some .non := rfl
    simp only [b_need_small, exs, ex, ev, see, List.map_cons, List.map_nil, List.cons_append, List.nil_append, List.getElem?_cons_succ, List.getElem?_cons_zero, hix, setT, List.set_cons_succ, List.set_cons_zero, cmpD, List.replicate]
  · exact key (10 ^ 18) rfl (by decide) rfl
  · exact key (10 ^ 4) rfl (by decide) rfl
  · exact key 200 rfl (by decide) rfl
def ansF (to : Bool) (a : Bool × List Int × Int) : D := if to then .tup [row a.1 a.2.1, .int a.2.2] else .lst [row a.1 a.2.1, .int a.2.2]
def AnsOk (m : Nat) (a : Bool × List Int × Int) : Prop := (∀ x ∈ a.2.1, 0 ≤ x) ∧ a.2.1.length = m ∧ 0 ≤ a.2.2
theorem see_row {t : Bool} {c : List Int} : see S (row t c) = some (row t c) := by cases t <;> rfl
theorem len_row {t : Bool} {c : List Int} : biD .len [row t c] = some (.int c.length) := by
  cases t
  · show biD .len [.lst (c.map D.int)] = _
    rw [len_lst, List.length_map]
  · show biD .len [.tup (c.map D.int)] = _
    rw [len_tup, List.length_map]
theorem is_answer {to : Bool} {m : Nat} {a : Bool × List Int × Int} (h : AnsOk m a) (hm : m ≤ 3) : run T w (n + 4) 38 [ansF to a, .int m] S = some (.bl true, S) := by
  obtain ⟨t, q, x⟩ := a
  obtain ⟨h1, h2, h3⟩ := h
  simp only at h1 h2 h3
  have e1 := are_numbers (w := w) (n := n) (S := S) (t := t) (c := q) h1 (by omega)
  have e2 := withinN (w := w) (n := n + 1) (S := S) (i := x) h3
  refine run_rts t38 rfl rfl ?_
  have g1 : see S (ansF to (t, q, x)) = some (ansF to (t, q, x)) := by cases to <;> rfl
  have g2 : ([Ty.list, Ty.tuple].any (isTy (ansF to (t, q, x)))) = true := by cases to <;> rfl
  have g3 : biD .len [ansF to (t, q, x)] = some (.int 2) := by cases to <;> rfl
  have g4 : ixD (ansF to (t, q, x)) (.int 0) = some (row t q) := by cases to <;> rfl
  have g5 : ixD (ansF to (t, q, x)) (.int 1) = some (.int x) := by cases to <;> rfl
  have g6 : cmpD .NotEq (.int 2) (.int 2) = some false := rfl
  have g7 : cmpD .Eq (.int (q.length : Int)) (.int m) = some true := by rw [h2]; show some (decide ((m : Int) = m)) = _; rw [decide_eq_true rfl]
  simp only [b_is_answer, exs, ex, ev, evs, List.map_cons, List.map_nil, List.cons_append, List.nil_append, List.getElem?_cons_succ, List.getElem?_cons_zero, g1, g2, g3, g4, g5, g6, g7, Bool.not_true, seeAll, see_int, see_row, len_row, e1, e2]
/-- where the answers stand: in a place, or as a tuple -/
def Src (S : Sto) (X : D) (L : List D) : Prop := (∃ j, X = .ref j ∧ S[j]? = some (some L) ∧ isObj L = false) ∨ X = .tup L
theorem look_ok {j k : Nat} {L : List D} (h : S[j]? = some (some L)) (no : isObj L = false) : look S j k = some L[k]? := by
  simp only [look, h, no, Bool.false_eq_true, if_false]
theorem compP_all {f : D → Sto → Option (Option D × Sto)} {g : D → D} {j : Nat} {L : List D} (h : S[j]? = some (some L)) (no : isObj L = false) (hf : ∀ d ∈ L, f d S = some (some (g d), S)) : ∀ (m k N : Nat) (acc : List D), L.length - k = m → k ≤ L.length → m < N → acc.length + m ≤ 1000 →
    compPRun f j N k acc S = some (acc ++ (L.drop k).map g, S)
  | 0, k, N + 1, acc, hm, hk, _, _ => by
    have e : L[k]? = none := List.getElem?_eq_none (by omega)
    rw [compPRun, look_ok h no, e, List.drop_eq_nil_of_le (by omega)]
    simp
  | m + 1, k, N + 1, acc, hm, hk, hN, ha => by
    have hlt : k < L.length := by omega
    have e : L[k]? = some L[k] := List.getElem?_eq_getElem hlt
    have sm : small (acc.length + 1) = true := decide_eq_true (by omega)
    have ih := compP_all h no hf m (k + 1) N (acc ++ [g L[k]]) (by omega) (by omega) (by omega) (by rw [List.length_append, List.length_singleton]; omega)
    rw [compPRun, look_ok h no, e]
    simp only [hf _ (List.getElem_mem hlt), sm, if_true, ih]
    rw [List.drop_eq_getElem_cons hlt, List.map_cons, List.append_assoc]
    rfl
theorem ev_compP {F : CF} {t : Tg} {it elt : E} {ρ : Iv.Env} {S S1 : Sto} {j : Nat} {L : List D} {g : D → D} (h1 : ev F it ρ S = some (.ref j, S1)) (hj : S1[j]? = some (some L)) (no : isObj L = false) (h3 : ∀ d ∈ L, ∃ ρ', setT t d (wipeT t ρ) = some ρ' ∧ ev F elt ρ' S1 = some (g d, S1)) (hl : L.length ≤ 900) :
    ev F (.compP false t it elt) ρ S = some (.lst (L.map g), S1) := by
  simp only [ev, h1]
  rw [compP_all (g := g) hj no (fun d hd => by
    obtain ⟨ρ', e1, e2⟩ := h3 d hd
    simp only [e1, e2]) L.length 0 100001 [] (by omega) (by omega) (by omega) (by simp only [List.length_nil]; omega)]
  rfl
theorem ev_compPt {F : CF} {t : Tg} {it elt : E} {ρ : Iv.Env} {S S1 : Sto} {L : List D} {g : D → D} (h1 : ev F it ρ S = some (.tup L, S1)) (h3 : ∀ d ∈ L, ∃ ρ', setT t d (wipeT t ρ) = some ρ' ∧ ev F elt ρ' S1 = some (g d, S1)) (hl : L.length ≤ 900) :
    ev F (.compP false t it elt) ρ S = some (.lst (L.map g), S1) := by
  have e := ev_comp (F := F) (t := t) (it := it) (elt := elt) (ρ := ρ) (S := S) (S1 := S1) (x := .tup L) (g := g) h1 rfl h3 (by omega)
  simp only [ev, h1] at e ⊢
  exact e
theorem are_answers {X : D} {L : List D} (hX : Src S X L) (h : ∀ d ∈ L, run T w (n + 4) 38 [d, .int 1] S = some (.bl true, S)) (hl : L.length ≤ 100) : run T w (n + 5) 39 [X, .int 1] S = some (.bl true, S) := by
  have e3 : biD .all [.lst (L.map fun _ => D.bl true)] = some (.bl true) := all_trueD fun x hx => by
    obtain ⟨_, _, rfl⟩ := List.mem_map.mp hx
    rfl
  refine run_rts t39 rfl rfl ?_
  have s1 : ev (run T w (n + 4)) (.isi (.v 0) [.list, .tuple]) [some X, some (.int 1), none] S = some (.bl true, S) := by
    rcases hX with ⟨j, rfl, hj, no⟩ | rfl
    · simp only [ev, List.getElem?_cons_zero, see, hj, no, Bool.false_eq_true, if_false, isTy, List.any_cons, List.any_nil]
      rfl
    · simp only [ev, List.getElem?_cons_zero, see]
      rfl
  have s0 : ev (run T w (n + 4)) (.compP false (.n 2) (.v 0) (.call 38 (.cons (.v 2) (.cons (.v 1) .nil)))) [some X, some (.int 1), none] S = some (.lst (L.map fun _ => .bl true), S) := by
    have turn : ∀ d ∈ L, ∃ ρ', setT (.n 2) d (wipeT (.n 2) [some X, some (.int 1), none]) = some ρ' ∧ ev (run T w (n + 4)) (.call 38 (.cons (.v 2) (.cons (.v 1) .nil))) ρ' S = some (.bl true, S) := fun d hd =>
      ⟨_, rfl, by simp only [ev, evs, wipeT, List.set_cons_succ, List.set_cons_zero, List.getElem?_cons_succ, List.getElem?_cons_zero, h d hd]⟩
    rcases hX with ⟨j, rfl, hj, no⟩ | rfl
    · exact ev_compP (g := fun _ => .bl true) rfl hj no turn (by omega)
    · exact ev_compPt (g := fun _ => .bl true) rfl turn (by omega)
  have s2 : ev (run T w (n + 4)) (.bi .all (.cons (.compP false (.n 2) (.v 0) (.call 38 (.cons (.v 2) (.cons (.v 1) .nil)))) .nil)) [some X, some (.int 1), none] S = some (.bl true, S) := by
    rw [ev, evs, s0]
    simp only [evs, seeAll, see, e3]
  show exs _ _ b_are_answers [some X, some (.int 1), none] S = _
  rw [b_are_answers, exs, ex, ev, s1]
  simp only [s2]
theorem need_answers {X : D} {L : List D} (hX : Src S X L) (h : ∀ d ∈ L, run T w (n + 4) 38 [d, .int 1] S = some (.bl true, S)) (hl : L.length ≤ 100) : run T w (n + 6) 50 [.int 1, X] S = some (.non, S) := by
  have e1 := need_many (w := w) (n := n + 1) (S := S) (m := 1) (by omega) (by omega)
  have e2 := are_answers (w := w) (n := n) hX h hl
  refine run_nxs (ρ := [some (.int 1), some X]) t50 rfl rfl ?_
  simp only [b_need_answers, exs, ex, ev, evs, List.map_cons, List.map_nil, List.cons_append, List.nil_append, List.getElem?_cons_succ, List.getElem?_cons_zero, e1, e2, Bool.not_true, List.replicate]
  rfl
theorem ok_intsT (c : List Int) : D.ok (.tup (c.map D.int)) = true := by
  simp [D.ok, D.pure, D.py, PyData.canLay0, PyData.depth, pures_ints, pys_ints, lay_ints, depth_ints]
theorem eqvAll_ints : ∀ a b : List Int, PyData.eqvAll (a.map PyData.int) (b.map PyData.int) = decide (a = b)
  | [], [] => by simp [PyData.eqvAll]
  | [], _ :: _ => by simp [PyData.eqvAll]
  | _ :: _, [] => by simp [PyData.eqvAll]
  | x :: a, y :: b => by
    simp only [List.map_cons, PyData.eqvAll, PyData.eqv, eqvAll_ints a b]
    by_cases h1 : x = y <;> by_cases h2 : a = b <;> simp [h1, h2]
theorem ne_tup (a b : List Int) : cmpD .NotEq (.tup (a.map D.int)) (.tup (b.map D.int)) = some (!decide (a = b)) := by
  show (if _ then _ else _) = _
  rw [if_pos (by rw [ok_intsT, ok_intsT]; rfl)]
  simp only [D.eqv, D.py, pys_ints, PyData.eqv, eqvAll_ints]
theorem eq_tup (a b : List Int) : cmpD .Eq (.tup (a.map D.int)) (.tup (b.map D.int)) = some (decide (a = b)) := by
  show (if _ then _ else _) = _
  rw [if_pos (by rw [ok_intsT, ok_intsT]; rfl)]
  simp only [D.eqv, D.py, pys_ints, PyData.eqv, eqvAll_ints]
theorem tup_row {t : Bool} {c : List Int} : biD .tuple [row t c] = some (.tup (c.map D.int)) := by cases t <;> rfl
def loA : St := (.ifs (.or (.cmp .Is (.v 4) (.c .non)) (.cmp .NotEq (.bi .tuple (.cons (.v 5) .nil)) (.v 4))) (.cons .never .nil) .nil)
def loB : St := (.asg (.n 7) (.ix (.v 2) (.op .Sub (.bi .len (.cons (.v 3) .nil)) (.c (.int 1)))))
def loC : St := (.ifs (.cmp .Eq (.ix (.v 3) (.neg (.c (.int 1)))) (.lst .nil)) (.cons (.ex (.call 45 (.cons (.v 6) (.cons (.bi .sum (.cons (.v 7) .nil)) .nil)))) .nil) .nil)
def loD : St := (.ex (.meth .append (.ix (.v 3) (.neg (.c (.int 1)))) (.cons (.v 6) .nil)))
def loE : St := (.asg (.n 4) (.call 44 (.cons (.v 7) (.cons (.ix (.v 3) (.neg (.c (.int 1)))) .nil))))
def loP : Ss := (.cons (.asg (.n 4) (.call 44 (.cons (.ix (.v 2) (.bi .len (.cons (.v 3) .nil))) (.cons (.lst .nil) .nil)))) (.cons (.ex (.meth .append (.v 3) (.cons (.new .nil) .nil))) .nil))
def loF : St := (.ifs (.and (.cmp .Is (.v 4) (.c .non)) (.cmp .Lt (.bi .len (.cons (.v 3) .nil)) (.bi .len (.cons (.v 2) .nil)))) loP .nil)
def loT : Ss := (.cons loA (.cons loB (.cons loC (.cons loD (.cons loE (.cons loF .nil))))))
section
variable {F : CF} {a0 a1 v7 : Option D} {C : List (List Bool)} {p r k : Nat} {R : List D} {cur q : List Int} {t : Bool} {x : Nat} {c : List Bool} {wnt : D}
theorem lo_A : ex F w loA [a0, a1, some (.tup (C.map wyT)), some (.ref p), some (.tup (q.map D.int)), some (row t q), some (.int x), v7] S = some (.nx [a0, a1, some (.tup (C.map wyT)), some (.ref p), some (.tup (q.map D.int)), some (row t q), some (.int x), v7], S) := by
  have z1 : cmpD .Is (.tup (q.map D.int)) .non = some false := rfl
  have z2 : cmpD .NotEq (.tup (q.map D.int)) (.tup (q.map D.int)) = some false := by rw [ne_tup, decide_eq_true rfl]; rfl
  have z3 : see S (.tup (q.map D.int)) = some (.tup (q.map D.int)) := rfl
  have z4 : see S .non = some .non := rfl
  simp only [loA, ex, exs, ev, evs, List.getElem?_cons_succ, List.getElem?_cons_zero, z1, z2, z3, z4, seeAll, see_row, tup_row]
theorem lo_B (hR : S[p]? = some (some R)) (hno : isObj R = false) (hl : R.length = k + 1) (hC : C[k]? = some c) : ex F w loB [a0, a1, some (.tup (C.map wyT)), some (.ref p), some wnt, some (row t q), some (.int x), v7] S = some (.nx [a0, a1, some (.tup (C.map wyT)), some (.ref p), some wnt, some (row t q), some (.int x), some (wyT c)], S) := by
  have z1 : see S (.ref p) = some (.lst R) := by simp only [see, hR, hno, Bool.false_eq_true, if_false]
  have hk := (List.getElem?_eq_some_iff.mp hC).1
  have z2 : ixD (.tup (C.map wyT)) (.int k) = some (wyT c) := by
    rw [ix_tup, atI_nat (by simpa using hk), List.getElem?_map, hC]
    rfl
  have z3 : (((k + 1 : Nat) : Int) - 1) = k := by omega
  have z4 : see S (.tup (C.map wyT)) = some (.tup (C.map wyT)) := rfl
  simp only [loB, ex, exs, ev, evs, List.getElem?_cons_succ, List.getElem?_cons_zero, seeAll, z1, len_lst, hl, see_int, op_sub, z3, z2, z4, setT, List.set_cons_succ, List.set_cons_zero]
theorem last_ref {ρ : Iv.Env} (hρ : ρ[3]? = some (some (.ref p))) (hR : S[p]? = some (some R)) (hno : isObj R = false) (hl : R.length = k + 1) (hr : R[k]? = some (.ref r)) : ev F (.ix (.v 3) (.neg (.c (.int 1)))) ρ S = some (.ref r, S) := by
  have z1 : see S (.ref p) = some (.lst R) := by simp only [see, hR, hno, Bool.false_eq_true, if_false]
  have z2 : ixD (.lst R) (.int (-1)) = some (.ref r) := by rw [ix_lst, atI_last hl, hr]
  simp only [ev, hρ, z1, z2]
theorem lo_C (hR : S[p]? = some (some R)) (hno : isObj R = false) (hl : R.length = k + 1) (hr : R[k]? = some (.ref r)) (hc : S[r]? = some (some (cur.map D.int))) (hs : cur = [] → ones c ≤ 3 ∧ (ones c = 0 ∨ x ≤ mosts (ones c))) :
    ex (run T w (n + 1)) w loC [a0, a1, some (.tup (C.map wyT)), some (.ref p), some wnt, some (row t q), some (.int x), some (wyT c)] S = some (.nx [a0, a1, some (.tup (C.map wyT)), some (.ref p), some wnt, some (row t q), some (.int x), some (wyT c)], S) := by
  have e := last_ref (F := run T w (n + 1)) (S := S) (ρ := [a0, a1, some (.tup (C.map wyT)), some (.ref p), some wnt, some (row t q), some (.int x), some (wyT c)]) rfl hR hno hl hr
  have z1 : see S (.ref r) = some (.lst (cur.map D.int)) := by simp only [see, hc, isObj_ints, Bool.false_eq_true, if_false]
  have zer : small 0 = true := rfl
  have s1 : ev (run T w (n + 1)) (.cmp .Eq (.ix (.v 3) (.neg (.c (.int 1)))) (.lst .nil)) [a0, a1, some (.tup (C.map wyT)), some (.ref p), some wnt, some (row t q), some (.int x), some (wyT c)] S = some (.bl (decide (cur = [])), S) := by
    rw [ev, e]
    simp only [ev, evs, List.length_nil, zer, if_true, z1, show see S (.lst []) = some (.lst []) from rfl, cmp_nil]
  rw [loC, ex, s1]
  by_cases h : cur = []
  · have e2 := need_small (w := w) (n := n) (S := S) (v := x) (k := ones c) (hs h).1 (hs h).2
    simp only [decide_eq_true h, exs, ex, ev, evs, List.getElem?_cons_succ, List.getElem?_cons_zero, seeAll, show see S (wyT c) = some (wyT c) from rfl, sum_wy, e2]
  · simp only [decide_eq_false h, exs]
theorem lo_D (hR : S[p]? = some (some R)) (hno : isObj R = false) (hl : R.length = k + 1) (hr : R[k]? = some (.ref r)) (hc : S[r]? = some (some (cur.map D.int))) (hz : cur.length ≤ 10) {ρ : Iv.Env} (h3 : ρ[3]? = some (some (.ref p))) (h6 : ρ[6]? = some (some (.int x))) :
    ex F w loD ρ S = some (.nx ρ, S.set r (some ((cur ++ [(x : Int)]).map D.int))) := by
  have e := last_ref (F := F) (S := S) h3 hR hno hl hr
  have z1 : see S (.ref r) = some (.lst (cur.map D.int)) := by simp only [see, hc, isObj_ints, Bool.false_eq_true, if_false]
  have sm : small (cur.length + 1) = true := decide_eq_true (by omega)
  rw [loD, ex, ev, e]
  simp only [z1, Option.isSome, if_true, evs, ev, h6, meD, hc, isObj_ints, Bool.not_false, Bool.true_and, List.length_map, sm, List.map_append, List.map_cons, List.map_nil]
theorem lo_E {o : D} (hR : S[p]? = some (some R)) (hno : isObj R = false) (hl : R.length = k + 1) (hr : R[k]? = some (.ref r)) (hn : run T w (n + 3) 44 [wyT c, .ref r] S = some (o, S)) :
    ex (run T w (n + 3)) w loE [a0, a1, some (.tup (C.map wyT)), some (.ref p), some wnt, some (row t q), some (.int x), some (wyT c)] S = some (.nx [a0, a1, some (.tup (C.map wyT)), some (.ref p), some o, some (row t q), some (.int x), some (wyT c)], S) := by
  have e := last_ref (F := run T w (n + 3)) (S := S) (ρ := [a0, a1, some (.tup (C.map wyT)), some (.ref p), some wnt, some (row t q), some (.int x), some (wyT c)]) rfl hR hno hl hr
  have s1 : evs (run T w (n + 3)) (.cons (.v 7) (.cons (.ix (.v 3) (.neg (.c (.int 1)))) .nil)) [a0, a1, some (.tup (C.map wyT)), some (.ref p), some wnt, some (row t q), some (.int x), some (wyT c)] S = some ([wyT c, .ref r], S) := by
    rw [evs, ev]
    simp only [List.getElem?_cons_succ, List.getElem?_cons_zero]
    rw [evs, e]
    simp only [evs]
  rw [loE, ex, ev, s1]
  simp only [hn, setT, List.set_cons_succ, List.set_cons_zero]
theorem lo_F1 : ex F w loF [a0, a1, some (.tup (C.map wyT)), some (.ref p), some (.tup (q.map D.int)), some wnt, some (.int x), v7] S = some (.nx [a0, a1, some (.tup (C.map wyT)), some (.ref p), some (.tup (q.map D.int)), some wnt, some (.int x), v7], S) := by
  have z1 : cmpD .Is (.tup (q.map D.int)) .non = some false := rfl
  have z3 : see S (.tup (q.map D.int)) = some (.tup (q.map D.int)) := rfl
  have z4 : see S .non = some .non := rfl
  simp only [loF, ex, exs, ev, evs, List.getElem?_cons_succ, List.getElem?_cons_zero, z1, z3, z4]
theorem lo_cond {ρ : Iv.Env} (h4 : ρ[4]? = some (some .non)) (h3 : ρ[3]? = some (some (.ref p))) (h2 : ρ[2]? = some (some (.tup (C.map wyT)))) (hR : S[p]? = some (some R)) (hno : isObj R = false) (hl : R.length = k + 1) :
    ev F (.and (.cmp .Is (.v 4) (.c .non)) (.cmp .Lt (.bi .len (.cons (.v 3) .nil)) (.bi .len (.cons (.v 2) .nil)))) ρ S = some (.bl (decide (k + 1 < C.length)), S) := by
  have z1 : cmpD .Is .non .non = some true := rfl
  have z4 : see S .non = some .non := rfl
  have z5 : see S (.ref p) = some (.lst R) := by simp only [see, hR, hno, Bool.false_eq_true, if_false]
  have z6 : see S (.tup (C.map wyT)) = some (.tup (C.map wyT)) := rfl
  have z7 : decide (((k + 1 : Nat) : Int) < (C.length : Int)) = decide (k + 1 < C.length) := by rw [decide_eq_decide]; omega
  simp only [ev, evs, h4, h3, h2, z4, z1, seeAll, z5, z6, len_lst, len_tup, hl, List.length_map, see_int, cmpD, z7]
theorem lo_F2 (hR : S[p]? = some (some R)) (hno : isObj R = false) (hl : R.length = k + 1) (hk : C.length ≤ k + 1) : ex F w loF [a0, a1, some (.tup (C.map wyT)), some (.ref p), some .non, some wnt, some (.int x), v7] S = some (.nx [a0, a1, some (.tup (C.map wyT)), some (.ref p), some .non, some wnt, some (.int x), v7], S) := by
  rw [loF, ex, lo_cond (C := C) (p := p) (R := R) (k := k) rfl rfl rfl hR hno hl, decide_eq_false (by omega)]
  simp only [exs]
theorem lo_F3 {d : List Bool} (hcl : clo S) (hR : S[p]? = some (some R)) (hno : isObj R = false) (hl : R.length = k + 1) (hz : k ≤ 10) (hd : C[k + 1]? = some d) (hd3 : d.length ≤ 3) :
    ex (run T w (n + 2)) w loF [a0, a1, some (.tup (C.map wyT)), some (.ref p), some .non, some wnt, some (.int x), v7] S = some (.nx [a0, a1, some (.tup (C.map wyT)), some (.ref p), some (.tup ((firstQ d).map D.int)), some wnt, some (.int x), v7], (S ++ [some ([] : List D)]).set p (some (R ++ [D.ref S.length]))) := by
  have hk := (List.getElem?_eq_some_iff.mp hd).1
  have e := next_first (w := w) (n := n) (S := S) (c := d) hcl hd3
  have z5 : see S (.ref p) = some (.lst R) := by simp only [see, hR, hno, Bool.false_eq_true, if_false]
  have z2 : ixD (.tup (C.map wyT)) (.int ((k + 1 : Nat) : Int)) = some (wyT d) := by
    rw [ix_tup, atI_nat (by simpa using hk), List.getElem?_map, hd]
    rfl
  have z6 : see S (.tup (C.map wyT)) = some (.tup (C.map wyT)) := rfl
  have zer : small 0 = true := rfl
  have hp := (List.getElem?_eq_some_iff.mp hR).1
  have s1 : ex (run T w (n + 2)) w (.asg (.n 4) (.call 44 (.cons (.ix (.v 2) (.bi .len (.cons (.v 3) .nil))) (.cons (.lst .nil) .nil)))) [a0, a1, some (.tup (C.map wyT)), some (.ref p), some .non, some wnt, some (.int x), v7] S = some (.nx [a0, a1, some (.tup (C.map wyT)), some (.ref p), some (.tup ((firstQ d).map D.int)), some wnt, some (.int x), v7], S) := by
    simp only [ex, ev, evs, List.getElem?_cons_succ, List.getElem?_cons_zero, seeAll, z5, len_lst, hl, z6, z2, List.length_nil, zer, if_true, e, setT, List.set_cons_succ, List.set_cons_zero]
  have g1 : (S ++ [some ([] : List D)])[p]? = some (some R) := by rw [List.getElem?_append_left hp, hR]
  have sm : small (k + 1 + 1) = true := decide_eq_true (by omega)
  have s2 : ∀ ρ : Iv.Env, ρ[3]? = some (some (.ref p)) → ex (run T w (n + 2)) w (.ex (.meth .append (.v 3) (.cons (.new .nil) .nil))) ρ S = some (.nx ρ, (S ++ [some ([] : List D)]).set p (some (R ++ [D.ref S.length]))) := fun ρ hρ => by
    simp only [ex, ev, evs, hρ, z5, Option.isSome, if_true, List.length_nil, zer, mkList, meD, g1, hno, Bool.not_false, Bool.true_and, hl, sm]
  rw [loF, ex, lo_cond (C := C) (p := p) (R := R) (k := k) rfl rfl rfl hR hno hl, decide_eq_true (show k + 1 < C.length from hk)]
  simp only []
  rw [loP, exs, s1]
  simp only []
  rw [exs, s2 _ rfl]
  simp only [exs]
end
end Lk52

set_option Elab.async false
set_option linter.all false
set_option maxRecDepth 100000
set_option maxHeartbeats 4000000
namespace Lk52
open PySem Iv
variable {w n : Nat} {S : Sto}
theorem getA {X : Sto} (i : Nat) : (S ++ X)[S.length + i]? = X[i]? := by
  rw [List.getElem?_append_right (by omega)]
  congr 1
  omega
theorem getA0 {X : Sto} : (S ++ X)[S.length]? = X[0]? := getA 0
theorem setA {X : Sto} (i : Nat) {x : Option (List D)} : (S ++ X).set (S.length + i) x = S ++ X.set i x := by
  rw [List.set_append_right _ _ (by omega)]
  congr 2
  omega
theorem setA0 {X : Sto} {x : Option (List D)} : (S ++ X).set S.length x = S ++ X.set 0 x := setA 0
/-- a walk through answers, wherever they stand -/
theorem walkP {t : Tg} {body : Iv.Env → Sto → Option (Out × Sto)} {j : Nat} {L : List D} {st : Nat → Iv.Env × Sto} (hl : ∀ i, i ≤ L.length → look (st i).2 j i = some L[i]?)
    (hb : ∀ i d, L[i]? = some d → ∃ ρ1, setT t d (st i).1 = some ρ1 ∧ body ρ1 (st i).2 = some (.nx (st (i + 1)).1, (st (i + 1)).2)) : ∀ (m k N : Nat), L.length - k = m → k ≤ L.length → m < N →
    forPRun t body j N k (st k).1 (st k).2 = some (.nx (st L.length).1, (st L.length).2)
  | 0, k, N + 1, hm, hk, _ => by
    obtain rfl : k = L.length := by omega
    rw [forPRun, hl _ hk, List.getElem?_eq_none (Nat.le_refl _)]
  | m + 1, k, N + 1, hm, hk, hN => by
    have hlt : k < L.length := by omega
    have e : L[k]? = some L[k] := List.getElem?_eq_getElem hlt
    obtain ⟨ρ1, e1, e2⟩ := hb k _ e
    have ih := walkP hl hb m (k + 1) N (by omega) (by omega) (by omega)
    rw [forPRun, hl _ hk, e]
    simp only [e1, e2]
    exact ih
theorem walkV {t : Tg} {body : Iv.Env → Sto → Option (Out × Sto)} {L : List D} {st : Nat → Iv.Env × Sto}
    (hb : ∀ i d, L[i]? = some d → ∃ ρ1, setT t d (st i).1 = some ρ1 ∧ body ρ1 (st i).2 = some (.nx (st (i + 1)).1, (st (i + 1)).2)) : ∀ (m k : Nat), L.length - k = m → k ≤ L.length →
    forRun t body (L.drop k) (st k).1 (st k).2 = some (.nx (st L.length).1, (st L.length).2)
  | 0, k, hm, hk => by
    obtain rfl : k = L.length := by omega
    rw [List.drop_length, forRun]
  | m + 1, k, hm, hk => by
    have hlt : k < L.length := by omega
    have e : L[k]? = some L[k] := List.getElem?_eq_getElem hlt
    obtain ⟨ρ1, e1, e2⟩ := hb k _ e
    have ih := walkV hb m (k + 1) (by omega) (by omega)
    rw [List.drop_eq_getElem_cons hlt, forRun]
    simp only [e1, e2]
    exact ih
section
variable {a0 a1 v7 : Option D} {C : List (List Bool)} {p r k : Nat} {R : List D} {cur q : List Int} {t : Bool} {x : Nat} {c : List Bool}
/-- an answer is taken in, up to the last statement -/
theorem taken (hR : S[p]? = some (some R)) (hno : isObj R = false) (h2 : R.length = k + 1) (h3 : R[k]? = some (.ref r)) (h4 : S[r]? = some (some (cur.map D.int))) (hC : C[k]? = some c) (hl : c.length ≤ 3) (hs : cur = [] → ones c = 0 ∨ x ≤ mosts (ones c)) (hz : cur.length ≤ 1)
    (g1 : (S.set r (some ((cur ++ [(x : Int)]).map D.int)))[p]? = some (some R)) (o : D)
    (hn : run T w (n + 3) 44 [wyT c, .ref r] (S.set r (some ((cur ++ [(x : Int)]).map D.int))) = some (o, S.set r (some ((cur ++ [(x : Int)]).map D.int)))) :
    exs (run T w (n + 3)) w loT [a0, a1, some (.tup (C.map wyT)), some (.ref p), some (.tup (q.map D.int)), some (row t q), some (.int x), v7] S = exs (run T w (n + 3)) w (.cons loF .nil) [a0, a1, some (.tup (C.map wyT)), some (.ref p), some o, some (row t q), some (.int x), some (wyT c)] (S.set r (some ((cur ++ [(x : Int)]).map D.int))) := by
  have sA := lo_A (F := run T w (n + 3)) (w := w) (S := S) (a0 := a0) (a1 := a1) (v7 := v7) (C := C) (p := p) (q := q) (t := t) (x := x)
  have sB := lo_B (F := run T w (n + 3)) (w := w) (S := S) (a0 := a0) (a1 := a1) (v7 := v7) (C := C) (p := p) (q := q) (t := t) (x := x) (wnt := .tup (q.map D.int)) hR hno h2 hC
  have sC := lo_C (n := n + 2) (w := w) (S := S) (a0 := a0) (a1 := a1) (C := C) (p := p) (q := q) (t := t) (x := x) (wnt := .tup (q.map D.int)) (c := c) hR hno h2 h3 h4 fun z => ⟨Nat.le_trans (ones_le c) hl, hs z⟩
  have sD := lo_D (F := run T w (n + 3)) (w := w) (S := S) (p := p) (x := x) hR hno h2 h3 h4 (by omega) (ρ := [a0, a1, some (.tup (C.map wyT)), some (.ref p), some (.tup (q.map D.int)), some (row t q), some (.int x), some (wyT c)]) rfl rfl
  have sE := lo_E (w := w) (n := n) (a0 := a0) (a1 := a1) (C := C) (q := q) (t := t) (x := x) (wnt := .tup (q.map D.int)) (c := c) (o := o) g1 hno h2 h3 hn
  rw [loT, exs, sA]
  simp only []
  rw [exs, sB]
  simp only []
  rw [exs, sC]
  simp only []
  rw [exs, sD]
  simp only []
  rw [exs, sE]
end
def an0 (n0 : Nat) : D := .tup [row true [0], .int n0]
def an1 (v : Nat) : D := .lst [row false [2], .int v]
def an2 (v u : Nat) : D := .tup [row true [((v + 1 : Nat) : Int)], .int u]
/-- what is asked behind the second answer -/
def want2 (v : Nat) : D := if v ≤ 1 then .non else .tup ([((v + 1 : Nat) : Int)].map D.int)
def C1 : D := .tup ((chs 1).map wyT)
def E0 (X : D) (S : Sto) : Iv.Env := [some (.int 1), some X, some C1, some (.ref (S.length + 1)), some (.tup (([0] : List Int).map D.int)), none, none, none]
def E1 (X : D) (S : Sto) (n0 : Nat) : Iv.Env := [some (.int 1), some X, some C1, some (.ref (S.length + 1)), some (.tup (([2] : List Int).map D.int)), some (row true [0]), some (.int n0), some (wyT [false])]
def E2 (X : D) (S : Sto) (v : Nat) : Iv.Env := [some (.int 1), some X, some C1, some (.ref (S.length + 1)), some (want2 v), some (row false [2]), some (.int v), some (wyT [true])]
def E3 (X : D) (S : Sto) (v u : Nat) : Iv.Env := [some (.int 1), some X, some C1, some (.ref (S.length + 1)), some .non, some (row true [((v + 1 : Nat) : Int)]), some (.int u), some (wyT [true])]
def Z0 (S : Sto) : Sto := [some (([] : List Int).map D.int), some [.ref S.length]]
def Z1 (S : Sto) (n0 : Nat) : Sto := [some ([(n0 : Int)].map D.int), some [.ref S.length, .ref (S.length + 2)], some (([] : List Int).map D.int)]
def Z2 (S : Sto) (n0 v : Nat) : Sto := [some ([(n0 : Int)].map D.int), some [.ref S.length, .ref (S.length + 2)], some ([(v : Int)].map D.int)]
def Z3 (S : Sto) (n0 v u : Nat) : Sto := [some ([(n0 : Int)].map D.int), some [.ref S.length, .ref (S.length + 2)], some ([(v : Int), (u : Int)].map D.int)]
theorem clo2 {a : List Int} (hc : clo S) : clo (S ++ [some (a.map D.int), some [.ref S.length]]) := clo_app hc (by
  have q := unders_ints (S.length + 2) a
  simp [closedS, D.unders, D.under, q])
theorem clo3 {a b : List Int} (hc : clo S) : clo (S ++ [some (a.map D.int), some [.ref S.length, .ref (S.length + 2)], some (b.map D.int)]) := clo_app hc (by
  have q := unders_ints (S.length + 3) a
  have q2 := unders_ints (S.length + 3) b
  simp [closedS, D.unders, D.under, q, q2])
theorem turn1 {X : D} {n0 : Nat} (hc : clo S) : exs (run T w (n + 3)) w loT [some (.int 1), some X, some C1, some (.ref (S.length + 1)), some (.tup (([0] : List Int).map D.int)), some (row true [0]), some (.int n0), none] (S ++ Z0 S) = some (.nx (E1 X S n0), S ++ Z1 S n0) := by
  have e0 : (S ++ Z0 S).set S.length (some (([] ++ [(n0 : Int)]).map D.int)) = S ++ [some ([(n0 : Int)].map D.int), some [.ref S.length]] := setA0
  have hcl : clo (S ++ [some ([(n0 : Int)].map D.int), some [.ref S.length]]) := clo2 hc
  have hn := next_at (w := w) (n := n) (S := S ++ [some ([(n0 : Int)].map D.int), some [.ref S.length]]) (c := [false]) (r := S.length) (cur := [(n0 : Int)]) hcl (by decide) getA0 (by simp) .non (.inl ⟨.inl rfl, rfl⟩)
  have h := taken (w := w) (n := n) (S := S ++ Z0 S) (a0 := some (.int 1)) (a1 := some X) (v7 := none) (C := chs 1) (p := S.length + 1) (r := S.length) (k := 0) (R := [.ref S.length]) (cur := []) (q := [0]) (t := true) (x := n0) (c := [false]) (getA 1) rfl rfl rfl getA0 rfl (by decide) (fun _ => .inl rfl) (by decide) (by rw [e0]; exact getA 1) .non (by rw [e0]; exact hn)
  rw [e0] at h
  have sF := lo_F3 (w := w) (n := n + 1) (S := S ++ [some ([(n0 : Int)].map D.int), some [.ref S.length]]) (a0 := some (.int 1)) (a1 := some X) (v7 := some (wyT [false])) (C := chs 1) (p := S.length + 1) (k := 0) (R := [.ref S.length]) (wnt := row true [0]) (x := n0) (d := [true]) hcl (getA 1) rfl rfl (by decide) rfl (by decide)
  refine h.trans ?_
  rw [exs, sF]
  simp only [exs]
  have e3 : (S ++ [some ([(n0 : Int)].map D.int), some [D.ref S.length]] ++ [some ([] : List D)]).set (S.length + 1) (some ([D.ref S.length] ++ [D.ref (S ++ [some ([(n0 : Int)].map D.int), some [D.ref S.length]]).length])) = S ++ Z1 S n0 := by
    rw [List.append_assoc, setA 1, List.length_append]
    rfl
  rw [e3]
  rfl
theorem turn2 {X : D} {n0 v : Nat} (hc : clo S) (hv : v ≤ 10 ^ 18) : exs (run T w (n + 3)) w loT [some (.int 1), some X, some C1, some (.ref (S.length + 1)), some (.tup (([2] : List Int).map D.int)), some (row false [2]), some (.int v), some (wyT [false])] (S ++ Z1 S n0) = some (.nx (E2 X S v), S ++ Z2 S n0 v) := by
  have e0 : (S ++ Z1 S n0).set (S.length + 2) (some (([] ++ [(v : Int)]).map D.int)) = S ++ Z2 S n0 v := setA 2
  have hcl : clo (S ++ Z2 S n0 v) := clo3 hc
  have hno : isObj [D.ref S.length, .ref (S.length + 2)] = false := rfl
  have hn : run T w (n + 3) 44 [wyT [true], .ref (S.length + 2)] (S ++ Z2 S n0 v) = some (want2 v, S ++ Z2 S n0 v) := by
    refine next_at (w := w) (n := n) (S := S ++ Z2 S n0 v) (c := [true]) (r := S.length + 2) (cur := [(v : Int)]) hcl (by decide) (getA 2) (by simp) (want2 v) ?_
    unfold want2
    by_cases h : v ≤ 1
    · rw [if_pos h]
      exact .inl ⟨.inr (.inr ⟨v, rfl, by omega⟩), rfl⟩
    · rw [if_neg h]
      refine .inr ⟨v, rfl, by omega, ?_, by decide, ?_⟩
      · rw [nb_eq (by omega)]
        have : v.log2 < 60 := (Nat.log2_lt (by omega)).mpr (by omega)
        omega
      · show _ = D.tup ([(((v + 1) ^ 1 : Nat) : Int)].map D.int)
        rw [Nat.pow_one]
  have h := taken (w := w) (n := n) (S := S ++ Z1 S n0) (a0 := some (.int 1)) (a1 := some X) (v7 := some (wyT [false])) (C := chs 1) (p := S.length + 1) (r := S.length + 2) (k := 1) (R := [.ref S.length, .ref (S.length + 2)]) (cur := []) (q := [2]) (t := false) (x := v) (c := [true]) (getA 1) hno rfl rfl (getA 2) rfl (by decide) (fun _ => .inr hv) (by decide) (by rw [e0]; exact getA 1) (want2 v) (by rw [e0]; exact hn)
  rw [e0] at h
  refine h.trans ?_
  by_cases h1 : v ≤ 1
  · have ew : want2 v = .non := if_pos h1
    have sF := lo_F2 (F := run T w (n + 3)) (w := w) (S := S ++ Z2 S n0 v) (a0 := some (.int 1)) (a1 := some X) (v7 := some (wyT [true])) (C := chs 1) (p := S.length + 1) (k := 1) (R := [.ref S.length, .ref (S.length + 2)]) (wnt := row false [2]) (x := v) (getA 1) hno rfl (by decide)
    unfold E2
    rw [ew, exs, sF]
    simp only [exs]
    rfl
  · have ew : want2 v = .tup ([((v + 1 : Nat) : Int)].map D.int) := if_neg h1
    have sF := lo_F1 (F := run T w (n + 3)) (w := w) (S := S ++ Z2 S n0 v) (a0 := some (.int 1)) (a1 := some X) (v7 := some (wyT [true])) (C := chs 1) (p := S.length + 1) (q := [((v + 1 : Nat) : Int)]) (wnt := row false [2]) (x := v)
    unfold E2
    rw [ew, exs, sF]
    simp only [exs]
    rfl
theorem turn3 {X : D} {n0 v u : Nat} (hc : clo S) : exs (run T w (n + 3)) w loT [some (.int 1), some X, some C1, some (.ref (S.length + 1)), some (.tup ([((v + 1 : Nat) : Int)].map D.int)), some (row true [((v + 1 : Nat) : Int)]), some (.int u), some (wyT [true])] (S ++ Z2 S n0 v) = some (.nx (E3 X S v u), S ++ Z3 S n0 v u) := by
  have e0 : (S ++ Z2 S n0 v).set (S.length + 2) (some (([(v : Int)] ++ [(u : Int)]).map D.int)) = S ++ Z3 S n0 v u := setA 2
  have hcl : clo (S ++ Z3 S n0 v u) := clo3 hc
  have hno : isObj [D.ref S.length, .ref (S.length + 2)] = false := rfl
  have hn := next_at (w := w) (n := n) (S := S ++ Z3 S n0 v u) (c := [true]) (r := S.length + 2) (cur := [(v : Int), (u : Int)]) hcl (by decide) (getA 2) (by simp) .non (.inl ⟨.inr (.inl rfl), rfl⟩)
  have h := taken (w := w) (n := n) (S := S ++ Z2 S n0 v) (a0 := some (.int 1)) (a1 := some X) (v7 := some (wyT [true])) (C := chs 1) (p := S.length + 1) (r := S.length + 2) (k := 1) (R := [.ref S.length, .ref (S.length + 2)]) (cur := [(v : Int)]) (q := [((v + 1 : Nat) : Int)]) (t := true) (x := u) (c := [true]) (getA 1) hno rfl rfl (getA 2) rfl (by decide) (fun z => nomatch z) (by simp) (by rw [e0]; exact getA 1) .non (by rw [e0]; exact hn)
  rw [e0] at h
  refine h.trans ?_
  have sF := lo_F2 (F := run T w (n + 3)) (w := w) (S := S ++ Z3 S n0 v u) (a0 := some (.int 1)) (a1 := some X) (v7 := some (wyT [true])) (C := chs 1) (p := S.length + 1) (k := 1) (R := [.ref S.length, .ref (S.length + 2)]) (wnt := row true [((v + 1 : Nat) : Int)]) (x := u) (getA 1) hno rfl (by decide)
  rw [exs, sF]
  simp only [exs]
  rfl
end Lk52

set_option Elab.async false
set_option linter.all false
set_option maxRecDepth 100000
set_option maxHeartbeats 4000000
namespace Lk52
open PySem Iv
variable {w n : Nat} {S : Sto}
theorem deep_ints (m : Nat) : ∀ (c : List Int) (S : Sto), mapS (deep (m + 1)) (c.map D.int) S = some (c.map D.int, S)
  | [], _ => rfl
  | x :: c, S => by
    rw [List.map_cons, mapS]
    simp only [deep, deep_ints m c S]
theorem deep_two {a b : List Int} (m : Nat) : deep (m + 3) (.ref (S.length + 1)) (S ++ [some (a.map D.int), some [.ref S.length, .ref (S.length + 2)], some (b.map D.int)]) = some (.lst [.lst (a.map D.int), .lst (b.map D.int)], S ++ [none, none, none]) := by
  have e1 : (S ++ [some (a.map D.int), some [D.ref S.length, D.ref (S.length + 2)], some (b.map D.int)])[S.length + 1]? = some (some [D.ref S.length, D.ref (S.length + 2)]) := getA 1
  have e2 : (S ++ [some (a.map D.int), some [D.ref S.length, D.ref (S.length + 2)], some (b.map D.int)]).set (S.length + 1) none = S ++ [some (a.map D.int), none, some (b.map D.int)] := setA 1
  have e3 : (S ++ [some (a.map D.int), none, some (b.map D.int)])[S.length]? = some (some (a.map D.int)) := getA0
  have e4 : (S ++ [some (a.map D.int), none, some (b.map D.int)]).set S.length none = S ++ [none, none, some (b.map D.int)] := setA0
  have e5 : (S ++ [none, none, some (b.map D.int)])[S.length + 2]? = some (some (b.map D.int)) := getA 2
  have e6 : (S ++ [none, none, some (b.map D.int)]).set (S.length + 2) none = S ++ [none, none, none] := setA 2
  have no : isObj [D.ref S.length, D.ref (S.length + 2)] = false := rfl
  have d1 : deep (m + 2) (.ref S.length) (S ++ [some (a.map D.int), none, some (b.map D.int)]) = some (.lst (a.map D.int), S ++ [none, none, some (b.map D.int)]) := by
    rw [deep]
    simp only [e3, isObj_ints, Bool.false_eq_true, if_false, e4, deep_ints]
  have d2 : deep (m + 2) (.ref (S.length + 2)) (S ++ [none, none, some (b.map D.int)]) = some (.lst (b.map D.int), S ++ [none, none, none]) := by
    rw [deep]
    simp only [e5, isObj_ints, Bool.false_eq_true, if_false, e6, deep_ints]
  rw [deep]
  simp only [e1, no, Bool.false_eq_true, if_false, e2, mapS, d1, d2]
theorem sorted_body : b_sorted_out = (.cons (.par [2, 3] (.cons (.call 11 (.cons (.v 0) .nil)) (.cons (.new (.cons (.new .nil) .nil)) .nil))) (.cons (.asg (.n 4) (.call 44 (.cons (.ix (.v 2) (.c (.int 0))) (.cons (.lst .nil) .nil)))) (.cons (.forP (.t [5, 6]) (.v 1) loT) (.cons (.frzD 3) (.cons (.ret (.tup (.cons (.v 3) (.cons (.v 4) .nil)))) .nil))))) := rfl
/-- the loop, wherever the answers stand -/
theorem loop_src {F : CF} {X : D} {L : List D} {body : Ss} {Z : Nat → Sto} {en : Nat → Iv.Env} (hX : Src S X L) (hw : L.length < w) (h1 : (en 0)[1]? = some (some X))
    (hb : ∀ i d, L[i]? = some d → ∃ ρ1, setT (.t [5, 6]) d (en i) = some ρ1 ∧ exs F w body ρ1 (S ++ Z i) = some (.nx (en (i + 1)), S ++ Z (i + 1))) :
    ex F w (.forP (.t [5, 6]) (.v 1) body) (en 0) (S ++ Z 0) = some (.nx (en L.length), S ++ Z L.length) := by
  rcases hX with ⟨j, rfl, hj, no⟩ | rfl
  · have hlt := (List.getElem?_eq_some_iff.mp hj).1
    have e := walkP (t := .t [5, 6]) (body := fun ρ S => exs F w body ρ S) (j := j) (L := L) (st := fun i => (en i, S ++ Z i)) (fun i hi => look_ok (by rw [List.getElem?_append_left hlt]; exact hj) no) hb L.length 0 w (by omega) (by omega) hw
    simp only [ex, ev, h1]
    exact e
  · have e := walkV (t := .t [5, 6]) (body := fun ρ S => exs F w body ρ S) (L := L) (st := fun i => (en i, S ++ Z i)) hb L.length 0 (by omega) (by omega)
    simp only [ex, ev, h1, items]
    exact e
theorem so_start {X : D} (hc : clo S) : ∀ res, exs (run T w (n + 6)) w (.cons (.forP (.t [5, 6]) (.v 1) loT) (.cons (.frzD 3) (.cons (.ret (.tup (.cons (.v 3) (.cons (.v 4) .nil)))) .nil))) (E0 X S) (S ++ Z0 S) = res →
    exs (run T w (n + 6)) w b_sorted_out [some (.int 1), some X, none, none, none, none, none, none] S = res := fun res h => by
  have e1 := choices (w := w) (n := n + 1) (S := S) (m := 1) (by decide)
  have zer : small 0 = true := rfl
  have one : small 1 = true := rfl
  have s1 : ex (run T w (n + 6)) w (.par [2, 3] (.cons (.call 11 (.cons (.v 0) .nil)) (.cons (.new (.cons (.new .nil) .nil)) .nil))) [some (.int 1), some X, none, none, none, none, none, none] S = some (.nx [some (.int 1), some X, some C1, some (.ref (S.length + 1)), none, none, none, none], S ++ Z0 S) := by
    have e1' : run T w (n + 6) 11 [.int 1] S = some (C1, S) := e1
    have ea : S ++ [some ([] : List D)] ++ [some [D.ref S.length]] = S ++ Z0 S := by rw [List.append_assoc]; rfl
    have el : (S ++ [some ([] : List D)]).length = S.length + 1 := by rw [List.length_append]; rfl
    simp [ex, ev, evs, e1', mkList, zer, one, ea, el]
  have e2 := next_first (w := w) (n := n + 4) (S := S ++ Z0 S) (c := [false]) (clo2 (a := []) hc) (by decide)
  have s2 : ex (run T w (n + 6)) w (.asg (.n 4) (.call 44 (.cons (.ix (.v 2) (.c (.int 0))) (.cons (.lst .nil) .nil)))) [some (.int 1), some X, some C1, some (.ref (S.length + 1)), none, none, none, none] (S ++ Z0 S) = some (.nx (E0 X S), S ++ Z0 S) := by
    have g1 : see (S ++ Z0 S) C1 = some C1 := rfl
    have g2 : ixD C1 (.int 0) = some (wyT [false]) := rfl
    simp only [ex, ev, evs, List.getElem?_cons_succ, List.getElem?_cons_zero, g1, g2, List.length_nil, zer, if_true, e2, setT, List.set_cons_succ, List.set_cons_zero]
    rfl
  rw [sorted_body, exs, s1]
  simp only []
  rw [exs, s2]
  exact h
theorem so_end {X : D} {a b : List Int} {o : D} {v5 v6 v7 : Option D} {F : CF} : exs F w (.cons (.frzD 3) (.cons (.ret (.tup (.cons (.v 3) (.cons (.v 4) .nil)))) .nil)) [some (.int 1), some X, some C1, some (.ref (S.length + 1)), some o, v5, v6, v7] (S ++ [some (a.map D.int), some [.ref S.length, .ref (S.length + 2)], some (b.map D.int)]) =
    some (.rt (.tup [.lst [.lst (a.map D.int), .lst (b.map D.int)], o]), S ++ [none, none, none]) := by
  have e := deep_two (S := S) (a := a) (b := b) 997
  have s1 : ex F w (.frzD 3) [some (.int 1), some X, some C1, some (.ref (S.length + 1)), some o, v5, v6, v7] (S ++ [some (a.map D.int), some [.ref S.length, .ref (S.length + 2)], some (b.map D.int)]) = some (.nx [some (.int 1), some X, some C1, some (.lst [.lst (a.map D.int), .lst (b.map D.int)]), some o, v5, v6, v7], S ++ [none, none, none]) := by
    simp only [ex, List.getElem?_cons_succ, List.getElem?_cons_zero]
    rw [show (1000 : Nat) = 997 + 3 from rfl, e]
    rfl
  have two : small 2 = true := rfl
  rw [exs, s1]
  simp only [exs, ex, ev, evs, List.getElem?_cons_succ, List.getElem?_cons_zero, List.length_cons, List.length_nil, Nat.zero_add, Nat.reduceAdd, two, if_true]
theorem pure_want (v : Nat) : D.pure (want2 v) = true := by
  unfold want2
  split
  · rfl
  · exact pures_ints _
theorem so2 {X : D} {n0 v : Nat} (hw : 10 ≤ w) (hc : clo S) (hX : Src S X [an0 n0, an1 v]) (hv : v ≤ 10 ^ 18) : run T w (n + 7) 46 [.int 1, X] S = some (.tup [.lst [.lst [.int n0], .lst [.int v]], want2 v], S) := by
  have t1 := turn1 (w := w) (n := n + 3) (S := S) (X := X) (n0 := n0) hc
  have t2 := turn2 (w := w) (n := n + 3) (S := S) (X := X) (n0 := n0) (v := v) hc hv
  have h := loop_src (S := S) (w := w) (F := run T w (n + 6)) (body := loT) (Z := fun i => match i with | 0 => Z0 S | 1 => Z1 S n0 | _ => Z2 S n0 v) (en := fun i => match i with | 0 => E0 X S | 1 => E1 X S n0 | _ => E2 X S v) hX (by simp only [List.length_cons, List.length_nil]; omega) rfl (fun i d hd => by
    match i, hd with
    | 0, hd => cases hd; exact ⟨_, rfl, t1⟩
    | 1, hd => cases hd; exact ⟨_, rfl, t2⟩
    | i + 2, hd => cases hd)
  refine run_rtc (X := [none, none, none]) t46 rfl hc ?_ (so_start hc _ ?_)
  · show (true && true && (D.pure (want2 v) && true)) = true
    rw [pure_want]
    rfl
  · have h' : ex (run T w (n + 6)) w (.forP (.t [5, 6]) (.v 1) loT) (E0 X S) (S ++ Z0 S) = some (.nx (E2 X S v), S ++ Z2 S n0 v) := h
    rw [exs, h']
    exact so_end (a := [(n0 : Int)]) (b := [(v : Int)])
theorem so3 {X : D} {n0 v u : Nat} (hw : 10 ≤ w) (hc : clo S) (hX : Src S X [an0 n0, an1 v, an2 v u]) (hv : v ≤ 10 ^ 18) (h2 : 2 ≤ v) : run T w (n + 7) 46 [.int 1, X] S = some (.tup [.lst [.lst [.int n0], .lst [.int v, .int u]], .non], S) := by
  have t1 := turn1 (w := w) (n := n + 3) (S := S) (X := X) (n0 := n0) hc
  have t2 := turn2 (w := w) (n := n + 3) (S := S) (X := X) (n0 := n0) (v := v) hc hv
  have t3 := turn3 (w := w) (n := n + 3) (S := S) (X := X) (n0 := n0) (v := v) (u := u) hc
  have ew : want2 v = .tup ([((v + 1 : Nat) : Int)].map D.int) := if_neg (by omega)
  have h := loop_src (S := S) (w := w) (F := run T w (n + 6)) (body := loT) (Z := fun i => match i with | 0 => Z0 S | 1 => Z1 S n0 | 2 => Z2 S n0 v | _ => Z3 S n0 v u) (en := fun i => match i with | 0 => E0 X S | 1 => E1 X S n0 | 2 => E2 X S v | _ => E3 X S v u) hX (by simp only [List.length_cons, List.length_nil]; omega) rfl (fun i d hd => by
    match i, hd with
    | 0, hd => cases hd; exact ⟨_, rfl, t1⟩
    | 1, hd => cases hd; exact ⟨_, rfl, t2⟩
    | 2, hd => cases hd; refine ⟨[some (.int 1), some X, some C1, some (.ref (S.length + 1)), some (want2 v), some (row true [((v + 1 : Nat) : Int)]), some (.int u), some (wyT [true])], rfl, ?_⟩; rw [ew]; exact t3
    | i + 3, hd => cases hd)
  refine run_rtc (X := [none, none, none]) t46 rfl hc rfl (so_start hc _ ?_)
  have h' : ex (run T w (n + 6)) w (.forP (.t [5, 6]) (.v 1) loT) (E0 X S) (S ++ Z0 S) = some (.nx (E3 X S v u), S ++ Z3 S n0 v u) := h
  rw [exs, h']
  exact so_end (a := [(n0 : Int)]) (b := [(v : Int), (u : Int)])
/-- each answer is one -/
theorem an0_ok (n0 : Nat) : run T w (n + 4) 38 [an0 n0, .int 1] S = some (.bl true, S) := is_answer (to := true) (m := 1) (a := (true, [0], (n0 : Int))) ⟨by simp, rfl, by simp⟩ (by decide)
theorem an1_ok (v : Nat) : run T w (n + 4) 38 [an1 v, .int 1] S = some (.bl true, S) := is_answer (to := false) (m := 1) (a := (false, [2], (v : Int))) ⟨by simp, rfl, by simp⟩ (by decide)
theorem an2_ok (v u : Nat) : run T w (n + 4) 38 [an2 v u, .int 1] S = some (.bl true, S) := is_answer (to := true) (m := 1) (a := (true, [((v + 1 : Nat) : Int)], (u : Int))) ⟨fun x hx => by cases List.mem_singleton.mp hx; omega, rfl, by simp⟩ (by decide)
theorem need2 {X : D} {n0 v : Nat} (hX : Src S X [an0 n0, an1 v]) : run T w (n + 6) 50 [.int 1, X] S = some (.non, S) := need_answers hX (fun d hd => by
  simp only [List.mem_cons, List.not_mem_nil, or_false] at hd
  rcases hd with rfl | rfl
  · exact an0_ok _
  · exact an1_ok _) (by simp)
theorem need3 {X : D} {n0 v u : Nat} (hX : Src S X [an0 n0, an1 v, an2 v u]) : run T w (n + 6) 50 [.int 1, X] S = some (.non, S) := need_answers hX (fun d hd => by
  simp only [List.mem_cons, List.not_mem_nil, or_false] at hd
  rcases hd with rfl | rfl | rfl
  · exact an0_ok _
  · exact an1_ok _
  · exact an2_ok _ _) (by simp)
theorem next_of {X a b : D} (h1 : run T w (n + 7) 50 [.int 1, X] S = some (.non, S)) (h2 : run T w (n + 7) 46 [.int 1, X] S = some (.tup [a, b], S)) : run T w (n + 8) 51 [.int 1, X] S = some (b, S) := by
  refine run_rts t51 rfl rfl ?_
  have g : ixD (.tup [a, b]) (.int 1) = some b := rfl
  simp only [b_next_ask, exs, ex, ev, evs, List.map_cons, List.map_nil, List.cons_append, List.nil_append, List.getElem?_cons_succ, List.getElem?_cons_zero, h1, h2, see, g, List.replicate]
theorem next2 {X : D} {n0 v : Nat} (hw : 10 ≤ w) (hc : clo S) (hX : Src S X [an0 n0, an1 v]) (hv : v ≤ 10 ^ 18) : run T w (n + 8) 51 [.int 1, X] S = some (want2 v, S) := next_of (need2 (n := n + 1) hX) (so2 hw hc hX hv)
theorem next3 {X : D} {n0 v u : Nat} (hw : 10 ≤ w) (hc : clo S) (hX : Src S X [an0 n0, an1 v, an2 v u]) (hv : v ≤ 10 ^ 18) (h2 : 2 ≤ v) : run T w (n + 8) 51 [.int 1, X] S = some (.non, S) := next_of (need3 (n := n + 1) hX) (so3 hw hc hX hv h2)
end Lk52

set_option Elab.async false
set_option linter.all false
set_option maxRecDepth 100000
set_option maxHeartbeats 4000000
namespace Lk52
open PySem Iv
variable {w n : Nat} {S : Sto}
/-- numbers, as the program holds them -/
def ni (l : List Nat) : List Int := l.map fun (k : Nat) => (k : Int)
def nl (l : List Nat) : List D := (ni l).map D.int
theorem ni_app (a b : List Nat) : ni (a ++ b) = ni a ++ ni b := List.map_append
theorem nl_len (l : List Nat) : (nl l).length = l.length := by rw [nl, ni, List.length_map, List.length_map]
theorem nl_cons (x : Nat) (l : List Nat) : nl (x :: l) = .int x :: nl l := rfl
theorem mod_int {x b : Nat} (hb : 1 ≤ b) : opD .Mod (.int (x : Int)) (.int (b : Int)) = some (.int ((x % b : Nat) : Int)) := by
  rw [op_mod (by omega)]
  rfl
theorem div_int {x b : Nat} (hb : 1 ≤ b) (hb2 : b < 2 ^ 100) : opD .FloorDiv (.int (x : Int)) (.int (b : Int)) = some (.int ((x / b : Nat) : Int)) := by
  rw [op_div (by omega) (by
    have : b < 2 ^ 200 := Nat.lt_trans hb2 (by decide)
    simpa using this)]
  rfl
theorem gt0 {x : Nat} : cmpD .Gt (.int (x : Int)) (.int 0) = some (decide (0 < x)) := by
  have e : decide ((0 : Int) < (x : Int)) = decide (0 < x) := decide_eq_decide.mpr (by omega)
  show some (decide ((0 : Int) < (x : Int))) = _
  rw [e]
theorem lt_int {a b : Nat} : cmpD .Lt (.int (a : Int)) (.int (b : Int)) = some (decide (a < b)) := by
  have e : decide ((a : Int) < (b : Int)) = decide (a < b) := decide_eq_decide.mpr (by omega)
  show some (decide ((a : Int) < (b : Int))) = _
  rw [e]
def dgC : E := (.and (.cmp .Gt (.v 4) (.c (.int 0))) (.cmp .Lt (.bi .len (.cons (.v 3) .nil)) (.v 2)))
def dgT : Ss := (.cons (.ex (.meth .append (.v 3) (.cons (.op .Mod (.v 4) (.v 1)) .nil))) (.cons (.asg (.n 4) (.op .FloorDiv (.v 4) (.v 1))) .nil))
theorem dg_test {F : CF} {v0 v1 : Option D} {most x : Nat} {fs : List Nat} : ev F dgC [v0, v1, some (.int most), some (.ref S.length), some (.int x)] (S ++ [some (nl fs)]) = some (.bl (decide (0 < x) && decide (fs.length < most)), S ++ [some (nl fs)]) := by
  have z : biD .len [.lst (nl fs)] = some (.int (fs.length : Nat)) := by rw [len_lst, nl_len]
  have se : see (S ++ [some (nl fs)]) (.ref S.length) = some (.lst (nl fs)) := see_end
  have s1 : ev F (.cmp .Gt (.v 4) (.c (.int 0))) [v0, v1, some (.int most), some (.ref S.length), some (.int x)] (S ++ [some (nl fs)]) = some (.bl (decide (0 < x)), S ++ [some (nl fs)]) := by
    simp only [ev, List.getElem?_cons_succ, List.getElem?_cons_zero, see_int, gt0]
  have s2 : ev F (.cmp .Lt (.bi .len (.cons (.v 3) .nil)) (.v 2)) [v0, v1, some (.int most), some (.ref S.length), some (.int x)] (S ++ [some (nl fs)]) = some (.bl (decide (fs.length < most)), S ++ [some (nl fs)]) := by
    simp only [ev, evs, List.getElem?_cons_succ, List.getElem?_cons_zero, seeAll, se, z, see_int, lt_int]
  rw [dgC, ev, s1]
  cases decide (0 < x) with
  | false => rfl
  | true => exact s2
theorem dg_step {F : CF} {v0 v2 : Option D} {b x : Nat} {fs : List Nat} (hb : 1 ≤ b) (hb2 : b < 2 ^ 100) (hl : fs.length < 1000) : exs F w dgT [v0, some (.int b), v2, some (.ref S.length), some (.int x)] (S ++ [some (nl fs)]) = some (.nx [v0, some (.int b), v2, some (.ref S.length), some (.int (x / b : Nat))], S ++ [some (nl (fs ++ [x % b]))]) := by
  have sm : small (fs.length + 1) = true := decide_eq_true (by omega)
  have se : see (S ++ [some (nl fs)]) (.ref S.length) = some (.lst (nl fs)) := see_end
  have no : isObj (nl fs) = false := isObj_ints _
  have e : nl fs ++ [D.int ((x % b : Nat) : Int)] = nl (fs ++ [x % b]) := by rw [nl, nl, ni_app, List.map_append]; rfl
  simp only [dgT, exs, ex, ev, evs, List.getElem?_cons_succ, List.getElem?_cons_zero, see_int, se, mod_int hb, div_int hb hb2, meD, get_end, no, Bool.not_false, Bool.true_and, nl_len, sm, set_end, Option.isSome, if_true, setT, List.set_cons_succ, List.set_cons_zero, e]
theorem dg_loop {F : CF} {v0 : Option D} {b most : Nat} (hb : 1 ≤ b) (hb2 : b < 2 ^ 100) : ∀ (m x : Nat) (fs : List Nat) (N : Nat), x < b ^ m → fs.length + (digL b m x).length ≤ most → fs.length + m ≤ 900 → m < N →
    whRun (fun ρ S => ev F dgC ρ S) (fun ρ S => exs F w dgT ρ S) N [v0, some (.int b), some (.int most), some (.ref S.length), some (.int x)] (S ++ [some (nl fs)]) = some (.nx [v0, some (.int b), some (.int most), some (.ref S.length), some (.int (0 : Nat))], S ++ [some (nl (fs ++ digL b m x))])
  | m, x, fs, 0, _, _, _, hN => by omega
  | 0, x, fs, N + 1, hx, _, _, _ => by
    have : x = 0 := by simpa using hx
    subst this
    have t := dg_test (F := F) (S := S) (v0 := v0) (v1 := some (.int b)) (most := most) (x := 0) (fs := fs)
    rw [show (decide (0 < 0) && decide (fs.length < most)) = false from rfl] at t
    rw [whRun]
    simp only [t, digL, List.append_nil]
  | m + 1, x, fs, N + 1, hx, hl, h9, hN => by
    by_cases z : x = 0
    · subst z
      have t := dg_test (F := F) (S := S) (v0 := v0) (v1 := some (.int b)) (most := most) (x := 0) (fs := fs)
      rw [show (decide (0 < 0) && decide (fs.length < most)) = false from rfl] at t
      rw [whRun]
      simp only [t, digL, if_true, List.append_nil]
    · have e : digL b (m + 1) x = x % b :: digL b m (x / b) := by rw [digL, if_neg z]
      rw [e, List.length_cons] at hl
      have t := dg_test (F := F) (S := S) (v0 := v0) (v1 := some (.int b)) (most := most) (x := x) (fs := fs)
      rw [decide_eq_true (show 0 < x by omega), decide_eq_true (show fs.length < most by omega)] at t
      have s := dg_step (F := F) (w := w) (S := S) (v0 := v0) (v2 := some (.int most)) (x := x) (fs := fs) hb hb2 (by omega)
      have ih := dg_loop (F := F) (v0 := v0) (most := most) hb hb2 m (x / b) (fs ++ [x % b]) N (by
        rw [Nat.div_lt_iff_lt_mul (by omega), ← Nat.pow_succ]; exact hx) (by rw [List.length_append, List.length_singleton]; omega) (by rw [List.length_append, List.length_singleton]; omega) (by omega)
      rw [whRun]
      simp only [t, s, Bool.and_self, ih, e, List.append_assoc, List.cons_append, List.nil_append]
theorem digits_ok {b most m x : Nat} (hw : 1000 ≤ w) (hc : clo S) (hb : 1 ≤ b) (hb2 : b < 2 ^ 100) (hx : x < b ^ m) (hm : m ≤ 900) (hl : (digL b m x).length ≤ most) : run T w (n + 1) 48 [.int x, .int b, .int most] S = some (.tup [.lst (nl (digL b m x)), .int 0], S) := by
  have zer : small 0 = true := rfl
  have two : small 2 = true := rfl
  have e := dg_loop (F := run T w n) (w := w) (S := S) (v0 := some (.int x)) (most := most) hb hb2 m x [] w hx (by simpa using hl) (by simpa using hm) (by omega)
  rw [List.nil_append] at e
  have s1 : ex (run T w n) w (.par [3, 4] (.cons (.new .nil) (.cons (.v 0) .nil))) [some (.int x), some (.int b), some (.int most), none, none] S = some (.nx [some (.int x), some (.int b), some (.int most), some (.ref S.length), some (.int x)], S ++ [some (nl [])]) := by
    simp [ex, ev, evs, mkList, zer, nl, ni]
  have s2 : ex (run T w n) w (.wh dgC dgT) [some (.int x), some (.int b), some (.int most), some (.ref S.length), some (.int x)] (S ++ [some (nl [])]) = some (.nx [some (.int x), some (.int b), some (.int most), some (.ref S.length), some (.int (0 : Nat))], S ++ [some (nl (digL b m x))]) := by
    rw [ex]
    exact e
  have no : isObj (nl (digL b m x)) = false := isObj_ints _
  have s3 : ex (run T w n) w (.frz 3) [some (.int x), some (.int b), some (.int most), some (.ref S.length), some (.int (0 : Nat))] (S ++ [some (nl (digL b m x))]) = some (.nx [some (.int x), some (.int b), some (.int most), some (.lst (nl (digL b m x))), some (.int (0 : Nat))], S ++ [none]) := by
    simp only [ex, List.getElem?_cons_succ, List.getElem?_cons_zero, get_end, no, Bool.false_eq_true, if_false, set_end, List.set_cons_succ, List.set_cons_zero]
  refine run_rtc (X := [none]) t48 rfl hc ?_ ?_
  · show (D.pures ((ni (digL b m x)).map D.int) && (true && true)) = true
    rw [pures_ints]
    rfl
  · have e3 : b_digits_of = .cons (.par [3, 4] (.cons (.new .nil) (.cons (.v 0) .nil))) (.cons (.wh dgC dgT) (.cons (.frz 3) (.cons (.ret (.tup (.cons (.v 3) (.cons (.v 4) .nil)))) .nil))) := rfl
    show exs _ _ b_digits_of [some (.int x), some (.int b), some (.int most), none, none] S = _
    rw [e3, exs, s1]
    simp only []
    rw [exs, s2]
    simp only []
    rw [exs, s3]
    simp only [exs, ex, ev, evs, List.getElem?_cons_succ, List.getElem?_cons_zero, List.length_cons, List.length_nil, Nat.zero_add, Nat.reduceAdd, two, if_true]
    rfl
theorem powers_ok {p k : Nat} (hc : clo S) (hk : 1 ≤ k) (hk2 : k < 2 ^ 100) : run T w (n + 1) 47 [wyT [true], .int p, .int k] S = some (.tup [.int (p % k : Nat)], S) := by
  have zer : small 0 = true := rfl
  have one : small 1 = true := rfl
  have c1 : cmpD .Eq (.int 1) (.int 1) = some true := rfl
  have no : isObj ([] : List D) = false := rfl
  have no2 : isObj [D.int (p % k : Nat)] = false := rfl
  refine run_rtc (X := [some [.int (p % k : Nat)]]) t47 rfl hc rfl ?_
  show exs _ _ b_powers_at [some (wyT [true]), some (.int p), some (.int k), none, none, none] S = _
  have s1 : ex (run T w n) w (.par [3, 4] (.cons (.new .nil) (.cons (.v 1) .nil))) [some (wyT [true]), some (.int p), some (.int k), none, none, none] S = some (.nx [some (wyT [true]), some (.int p), some (.int k), some (.ref S.length), some (.int p), none], S ++ [some []]) := by
    simp [ex, ev, evs, mkList, zer]
  rw [b_powers_at, exs, s1]
  simp only [exs, ex, ev, evs, List.getElem?_cons_succ, List.getElem?_cons_zero, wyT, items, List.map_cons, List.map_nil, bit, if_true, forRun, setT, List.set_cons_succ, List.set_cons_zero, see_int, c1, see, get_end, no, no2, Bool.false_eq_true, if_false, Option.isSome, mod_int hk, div_int hk hk2, meD, Bool.not_false, Bool.true_and, List.length_nil, Nat.zero_add, one, set_end, List.nil_append, seeAll, biD]
def tmD (t : Nat × Nat) : D := .tup [.tup [.int t.1], .int t.2]
def tms (ts : List (Nat × Nat)) : List D := ts.map tmD
theorem pures_tms : ∀ ts, D.pures (tms ts) = true
  | [] => rfl
  | t :: ts => by
    show (true && D.pures (tms ts)) = true
    rw [pures_tms ts]; rfl
theorem py_tm (t : Nat × Nat) : (tmD t).py = .tuple [.tuple [.int t.1], .int t.2] := rfl
theorem lt_one (p q : Nat) : PySem.W.dataLt (.tuple [.int p]) (.tuple [.int q]) = decide (p < q) := by
  rw [PySem.W.dataLt_tuple, PySem.W.dataLt_cons (by simp [PySem.W.alike]), PySem.W.dataLt_int]
  have e : PyProof.Rows.lexLt PyProof.Rows.itemOrd (PySem.W.keyToksAll []) (PySem.W.keyToksAll []) = false := PyProof.Rows.lex_irrefl _
  rw [e]
  simp [PyData.eqv]
  omega
theorem alike_one (p q : Nat) : PySem.W.alike (.tuple [.int p]) (.tuple [.int q]) = true := by
  rw [PySem.W.alike]
  exact PySem.W.alike_ints [(p : Int)] [(q : Int)]
theorem alike_tm (s t : Nat × Nat) : PySem.W.alike (tmD s).py (tmD t).py = true := by
  rw [py_tm, py_tm]
  simp [PySem.W.alike, PySem.W.alikeAll]
theorem lt_tm {s t : Nat × Nat} (h : s.1 < t.1) : PySem.W.dataLt (tmD t).py (tmD s).py = false := by
  rw [py_tm, py_tm, PySem.W.dataLt_tuple, PySem.W.dataLt_cons (alike_one _ _), lt_one, decide_eq_false (by omega)]
  have : PyData.eqv (.tuple [.int (t.1 : Int)]) (.tuple [.int (s.1 : Int)]) = false := by
    simp [PyData.eqv, PyData.eqvAll]
    omega
  rw [this]
  rfl
theorem sort_tms {ts : List (Nat × Nat)} (hl : ts.length ≤ 1000) (hp : ts.Pairwise fun a b => a.1 < b.1) : biD .sorted [.lst (tms ts)] = some (.lst (tms ts)) := by
  have e : sortOk (tms ts) = true := by
    have a1 : small (tms ts).length = true := decide_eq_true (by rw [tms, List.length_map]; omega)
    have a2 : allAlike (tms ts) = true := by
      refine List.all_eq_true.mpr fun a ha => List.all_eq_true.mpr fun b hb => ?_
      obtain ⟨p, _, rfl⟩ := List.mem_map.mp ha
      obtain ⟨q, _, rfl⟩ := List.mem_map.mp hb
      exact alike_tm p q
    have a3 : ((tms ts).all fun a => decide (a.py.depth ≤ 100)) = true := by
      refine List.all_eq_true.mpr fun a ha => ?_
      obtain ⟨p, _, rfl⟩ := List.mem_map.mp ha
      rw [py_tm]
      rfl
    have a4 : (tms ts).all D.isTup1 = true := by
      refine List.all_eq_true.mpr fun a ha => ?_
      obtain ⟨p, _, rfl⟩ := List.mem_map.mp ha
      rfl
    unfold sortOk
    rw [a1, pures_tms, a2, a3, a4]
    simp
  show (if _ then _ else _) = _
  rw [if_pos e]
  refine congrArg (fun x => some (D.lst x)) ?_
  unfold sortD
  refine List.mergeSort_of_pairwise ?_
  rw [tms, List.pairwise_map]
  refine hp.imp fun {p q} h => ?_
  rw [lt_tm h]
  rfl
end Lk52

set_option Elab.async false
set_option linter.all false
set_option maxRecDepth 100000
set_option maxHeartbeats 4000000
namespace Lk52
open PySem Iv
variable {w n : Nat} {S : Sto}
theorem enum_run {f : D → Sto → Option (Option D × Sto)} : ∀ (l : List Nat) (k : Nat) (acc : List D), (∀ i s, i < k + l.length → s ∈ l → f (.tup [.int (i : Nat), .int (s : Nat)]) S = some (if s = 0 then none else some (tmD (i, s)), S)) → acc.length + l.length ≤ 1000 →
    compRun f (((List.range' k l.length).zip (nl l)).map fun p => .tup [.int (p.1 : Nat), p.2]) acc S = some (acc ++ tms (terms k l), S)
  | [], k, acc, _, _ => by simp [compRun, terms, tms, nl, ni]
  | s :: l, k, acc, h, hl => by
    rw [List.length_cons] at hl
    have h0 := h k s (by simp only [List.length_cons]; omega) List.mem_cons_self
    rw [List.length_cons, List.range'_succ, nl_cons, List.zip_cons_cons, List.map_cons, compRun, h0]
    by_cases z : s = 0
    · have ih := enum_run l (k + 1) acc (fun i x hi hx => h i x (by simp only [List.length_cons]; omega) (List.mem_cons_of_mem _ hx)) (by omega)
      simp only [if_pos z, ih, terms]
    · have ih := enum_run l (k + 1) (acc ++ [tmD (k, s)]) (fun i x hi hx => h i x (by simp only [List.length_cons]; omega) (List.mem_cons_of_mem _ hx)) (by rw [List.length_append, List.length_singleton]; omega)
      have sm : small (acc.length + 1) = true := decide_eq_true (by omega)
      simp only [if_neg z, sm, if_true, ih, terms]
      rw [List.append_assoc]
      rfl
theorem ev_enum {F : CF} {i j : Nat} {e cond elt : E} {ρ : Iv.Env} {l : List Nat} (h1 : ev F e ρ S = some (.lst (nl l), S)) (hl : l.length ≤ 900)
    (h : ∀ p s, p < l.length → s ∈ l → ∃ ρ', setT (.t [i, j]) (.tup [.int (p : Nat), .int (s : Nat)]) (wipeT (.t [i, j]) ρ) = some ρ' ∧ ev F cond ρ' S = some (.bl (decide (0 < s)), S) ∧ (s ≠ 0 → ev F elt ρ' S = some (tmD (p, s), S))) :
    ev F (.compI false (.t [i, j]) (.enum e) cond elt) ρ S = some (.lst (tms (terms 0 l)), S) := by
  have e1 : ev F (.enum e) ρ S = some (.lst (((List.range' 0 l.length).zip (nl l)).map fun p => .tup [.int (p.1 : Nat), p.2]), S) := by
    rw [ev, h1]
    simp only [nl_len, List.range_eq_range']
  rw [ev, e1]
  simp only [items]
  rw [enum_run l 0 [] (fun p s hp hs => by
    obtain ⟨ρ', q1, q2, q3⟩ := h p s (by omega) hs
    simp only [q1, q2]
    by_cases z : s = 0
    · rw [decide_eq_false (by omega), if_pos z]
    · rw [decide_eq_true (by omega), if_neg z]
      simp only [q3 z]) (by simp only [List.length_nil]; omega)]
  rfl
theorem sum_ni : ∀ l : List Nat, (ni l).sum = (l.sum : Nat)
  | [] => rfl
  | x :: l => by
    show (x : Int) + (ni l).sum = ((x + l.sum : Nat) : Int)
    rw [sum_ni l]
    omega
theorem sum_nl (l : List Nat) : biD .sum [.lst (nl l)] = some (.int (l.sum : Nat)) := by
  show (ints? ((ni l).map D.int)).map _ = _
  rw [ints_map, Option.map_some, sum_ni]
def gW : D → D
  | .tup [.tup [.int p], .int s] => .int (s * 2 ^ p.toNat)
  | d => d
theorem map_gW (ts : List (Nat × Nat)) : (tms ts).map gW = nl (ts.map fun t => t.2 * 2 ^ t.1) := by
  induction ts with
  | nil => rfl
  | cons t ts ih =>
    have e : ((t.2 : Int) * 2 ^ (t.1 : Int).toNat) = ((t.2 * 2 ^ t.1 : Nat) : Int) := by
      rw [Int.toNat_natCast, Int.natCast_mul, Int.natCast_pow]
      rfl
    show D.int ((t.2 : Int) * 2 ^ (t.1 : Int).toNat) :: (tms ts).map gW = .int ((t.2 * 2 ^ t.1 : Nat) : Int) :: nl _
    rw [e, ih]
theorem gW_tm (t : Nat × Nat) : gW (tmD t) = .int ((t.2 : Int) * ((2 ^ t.1 : Nat) : Int)) := by
  have e : ((t.2 : Int) * 2 ^ (t.1 : Int).toNat) = (t.2 : Int) * ((2 ^ t.1 : Nat) : Int) := by
    rw [Int.toNat_natCast, Int.natCast_pow]
    rfl
  show D.int ((t.2 : Int) * 2 ^ (t.1 : Int).toNat) = _
  rw [e]
theorem turn_tm {F : CF} {ρ : Iv.Env} {p v8 : Nat} {q : Int} {r d : D} (h8 : ρ[8]? = some (some (.int (v8 : Int)))) (h9 : ρ[9]? = some (some (.tup [.int (p : Int)]))) (e : F 40 [.int 2, .int (p : Int)] S = some (.int q, S)) (m : opD .Mult (.int (v8 : Int)) (.int q) = some r) (hd : d = r) :
    ev F (.op .Mult (.v 8) (.call 40 (.cons (.g "FIRST" (.int 2)) (.cons (.bi .sum (.cons (.v 9) .nil)) .nil)))) ρ S = some (d, S) := by
  subst hd
  have sm : biD .sum [.tup [.int (p : Int)]] = some (.int (p : Int)) := by
    show some (D.int ((p : Int) + 0)) = _
    rw [Int.add_zero]
  have sd : see S (.tup [.int (p : Int)]) = some (.tup [.int (p : Int)]) := rfl
  simp only [ev, evs, h8, h9, seeAll, sd, sm, e, see_int, m]
/-- the polynomial told by one number alone -/
def pol1 (v : Nat) : D := .tup (tms (if v = 0 then [] else [(0, v)]))
theorem poly_one {c : Bool} {v : Nat} : run T w (n + 1) 49 [wyT [c], .lst [.int v]] S = some (pol1 v, S) := by
  have z0 : ixD (.lst [.int (v : Int)]) (.int 0) = some (.int v) := rfl
  have z1 : cmpD .Eq (.int 1) (.int 1) = some true := rfl
  have z2 : biD .len [.lst [.int (v : Int)]] = some (.int 1) := rfl
  have z3 : biD .len [wyT [c]] = some (.int 1) := rfl
  have z4 : opD .Mult (.lst [.int 0]) (.int 1) = some (.lst [.int 0]) := rfl
  have one : small 1 = true := rfl
  have two : small 2 = true := rfl
  have zer : small 0 = true := rfl
  have l1 : see S (.lst [.int (v : Int)]) = some (.lst [.int (v : Int)]) := rfl
  have l2 : see S (wyT [c]) = some (wyT [c]) := rfl
  have l3 : see S (.lst [.int 0]) = some (.lst [.int 0]) := rfl
  refine run_rts t49 rfl rfl (S1 := S) ?_
  show exs _ _ b_polynomial_of [some (wyT [c]), some (.lst [.int v]), none, none, none, none, none, none, none, none] S = _
  have s1 : ex (run T w n) w (.asg (.n 2) (.ix (.v 1) (.c (.int 0)))) [some (wyT [c]), some (.lst [.int v]), none, none, none, none, none, none, none, none] S = some (.nx [some (wyT [c]), some (.lst [.int v]), some (.int v), none, none, none, none, none, none, none], S) := by
    simp only [ex, ev, List.getElem?_cons_succ, List.getElem?_cons_zero, l1, z0, setT, List.set_cons_succ, List.set_cons_zero]
  have s2 : ev (run T w n) (.cmp .Eq (.bi .len (.cons (.v 1) .nil)) (.c (.int 1))) [some (wyT [c]), some (.lst [.int v]), some (.int v), none, none, none, none, none, none, none] S = some (.bl true, S) := by
    simp only [ev, evs, List.getElem?_cons_succ, List.getElem?_cons_zero, seeAll, l1, z2, see_int, z1]
  rw [b_polynomial_of, exs, s1]
  simp only []
  rw [exs, ex, s2]
  simp only []
  by_cases h : v = 0
  · subst h
    have g : cmpD .Gt (.int ((0 : Nat) : Int)) (.int 0) = some false := gt0
    simp only [exs, ex, ev, evs, List.getElem?_cons_succ, List.getElem?_cons_zero, see_int, g, zer, List.length_nil, if_true]
    rfl
  · have g : cmpD .Gt (.int (v : Int)) (.int 0) = some true := by rw [gt0, decide_eq_true (by omega)]
    simp only [exs, ex, ev, evs, List.getElem?_cons_succ, List.getElem?_cons_zero, see_int, g, zer, one, two, List.length_nil, List.length_cons, Nat.zero_add, Nat.reduceAdd, if_true, seeAll, l2, z3, l3, z4, biD]
    unfold pol1
    rw [if_neg h]
    rfl
/-- a bound that omega does not see into -/
def Bd (x : Nat) : Prop := x < 2 ^ 100
def Bt (x : Nat) : Prop := x ≤ 10 ^ 18
theorem bd_of {x : Nat} (h : x ≤ 10 ^ 19) : Bd x := Nat.lt_of_le_of_lt h (by decide)
theorem log60 {v : Nat} (h0 : v ≠ 0) (h : v ≤ 10 ^ 18) : v.log2 < 60 := (Nat.log2_lt h0).mpr (Nat.lt_of_le_of_lt h (by decide))
theorem le_p60 {k : Nat} (h : k ≤ 60) : k ≤ 2 ^ 60 := Nat.le_trans h (by decide)
theorem mul_tm {a b : Nat} (h : Bt a) : opD .Mult (.int (a : Int)) (.int (b : Int)) = some (.int ((a : Int) * (b : Int))) := op_mul (by
  have : a < 2 ^ 63 := Nat.lt_of_le_of_lt h (by decide)
  simpa using this)
/-- shares that the law draws -/
structure Sh (sh : List Nat) (v : Nat) : Prop where
  len : sh.length = 60
  val : hor 2 sh = v
  big : Bt v
theorem Sh.lt {sh : List Nat} {v : Nat} (h : Sh sh v) : ∀ s ∈ sh, s < v + 1 := fun s hs => by
  have := mem_le_hor sh 2 (by decide) s hs
  rw [h.val] at this
  omega
theorem hor60 {sh : List Nat} {v : Nat} (h : Sh sh v) : hor (v + 1) sh < (v + 1) ^ 60 := by
  have := hor_lt sh h.lt
  rw [h.len] at this
  exact this
theorem dig48 {sh : List Nat} {v : Nat} (hw : 1000 ≤ w) (hc : clo S) (h : Sh sh v) (h2 : 2 ≤ v) : run T w (n + 1) 48 [.int (hor (v + 1) sh : Nat), .int (v + 1 : Nat), .int (nb v : Nat)] S = some (.tup [.lst (nl (strip sh)), .int 0], S) := by
  have hb : Bd (v + 1) := bd_of (Nat.le_trans (Nat.add_le_add_right h.big 1) (by decide))
  have hd : digL (v + 1) 60 (hor (v + 1) sh) = strip sh := digL_hor (by omega) sh 60 h.lt (by rw [h.len]; exact Nat.le_refl _)
  have hlen : (strip sh).length ≤ nb v := by rw [nb_eq (by omega)]; exact strip_log h.val (by omega)
  have e48 := digits_ok (w := w) (n := n) (S := S) (b := v + 1) (most := nb v) (m := 60) (x := hor (v + 1) sh) hw hc (Nat.le_add_left 1 v) hb (hor60 h) (by decide) (by rw [hd]; exact hlen)
  rw [hd] at e48
  exact e48
theorem poly_two {sh : List Nat} {v : Nat} (hw : 1000 ≤ w) (hc : clo S) (h : Sh sh v) (h2 : 2 ≤ v) : run T w (n + 2) 49 [wyT [true], .lst [.int v, .int (hor (v + 1) sh : Nat)]] S = some (.tup (tms (terms 0 sh)), S) := by
  have hlog : v.log2 < 60 := log60 (fun z => by omega) h.big
  have hnb : nb v = v.log2 + 1 := nb_eq (by omega)
  have hlen : (strip sh).length ≤ nb v := by rw [hnb]; exact strip_log h.val (by omega)
  have e48 := dig48 (w := w) (n := n) (S := S) hw hc h h2
  have e41 := bits_ok (w := w) (n := n) (S := S) (v := v)
  have e40 := raised_ok (w := w) (n := n) (S := S) (x := nb v) (t := 1) (a := 60) (le_p60 (by omega)) (by decide) (by decide) (by decide) (by decide)
  rw [Nat.pow_one] at e40
  generalize hu : hor (v + 1) sh = u at e48 ⊢
  generalize hk : nb v = k at e48 e41 e40 hlen hnb
  have hk2 : Bd k := bd_of (Nat.le_trans (show k ≤ 60 by omega) (by decide))
  have z0 : ixD (.lst [.int (v : Int), .int (u : Int)]) (.int 0) = some (.int v) := rfl
  have z00 : ixD (.lst [.int (v : Int), .int (u : Int)]) (.int 1) = some (.int u) := rfl
  have z1 : cmpD .Eq (.int 2) (.int 1) = some false := rfl
  have z2 : biD .len [.lst [.int (v : Int), .int (u : Int)]] = some (.int 2) := rfl
  have l1 : see S (.lst [.int (v : Int), .int (u : Int)]) = some (.lst [.int (v : Int), .int (u : Int)]) := rfl
  have l2 : see S (wyT [true]) = some (wyT [true]) := rfl
  have z3 : biD .sum [wyT [true]] = some (.int 1) := rfl
  have two : small 2 = true := rfl
  refine run_rts t49 rfl rfl (S1 := S) ?_
  show exs _ _ b_polynomial_of [some (wyT [true]), some (.lst [.int v, .int u]), none, none, none, none, none, none, none, none] S = _
  have s1 : ex (run T w (n + 1)) w (.asg (.n 2) (.ix (.v 1) (.c (.int 0)))) [some (wyT [true]), some (.lst [.int v, .int u]), none, none, none, none, none, none, none, none] S = some (.nx [some (wyT [true]), some (.lst [.int v, .int u]), some (.int v), none, none, none, none, none, none, none], S) := by
    simp only [ex, ev, List.getElem?_cons_succ, List.getElem?_cons_zero, l1, z0, setT, List.set_cons_succ, List.set_cons_zero]
  have s2 : ev (run T w (n + 1)) (.cmp .Eq (.bi .len (.cons (.v 1) .nil)) (.c (.int 1))) [some (wyT [true]), some (.lst [.int v, .int u]), some (.int v), none, none, none, none, none, none, none] S = some (.bl false, S) := by
    simp only [ev, evs, List.getElem?_cons_succ, List.getElem?_cons_zero, seeAll, l1, z2, see_int, z1]
  have s3 : ex (run T w (n + 1)) w (.asg (.n 3) (.call 41 (.cons (.v 2) .nil))) [some (wyT [true]), some (.lst [.int v, .int u]), some (.int v), none, none, none, none, none, none, none] S = some (.nx [some (wyT [true]), some (.lst [.int v, .int u]), some (.int v), some (.int k), none, none, none, none, none, none], S) := by
    simp only [ex, ev, evs, List.getElem?_cons_succ, List.getElem?_cons_zero, e41, setT, List.set_cons_succ, List.set_cons_zero]
  have s4 : ex (run T w (n + 1)) w (.asg (.t [4, 5]) (.call 48 (.cons (.ix (.v 1) (.c (.int 1))) (.cons (.op .Add (.v 2) (.c (.int 1))) (.cons (.call 40 (.cons (.v 3) (.cons (.bi .sum (.cons (.v 0) .nil)) .nil))) .nil))))) [some (wyT [true]), some (.lst [.int v, .int u]), some (.int v), some (.int k), none, none, none, none, none, none] S = some (.nx [some (wyT [true]), some (.lst [.int v, .int u]), some (.int v), some (.int k), some (.lst (nl (strip sh))), some (.int 0), none, none, none, none], S) := by
    have e48' : run T w (n + 1) 48 [.int u, .int ((v : Int) + 1), .int k] S = some (.tup [.lst (nl (strip sh)), .int 0], S) := e48
    have e40' : run T w (n + 1) 40 [.int k, .int 1] S = some (.int k, S) := e40
    simp only [ex, ev, evs, List.getElem?_cons_succ, List.getElem?_cons_zero, l1, z00, see_int, op_add, seeAll, l2, z3, e40', e48', setT, List.length_cons, List.length_nil, if_true, List.zip_cons_cons, List.zip_nil_right, List.foldl_cons, List.foldl_nil, List.set_cons_succ, List.set_cons_zero]
  have s5 : ex (run T w (n + 1)) w (.asg (.n 6) (.compI false (.t [7, 8]) (.enum (.v 4)) (.cmp .Gt (.v 8) (.c (.int 0))) (.tup (.cons (.call 47 (.cons (.v 0) (.cons (.v 7) (.cons (.v 3) .nil)))) (.cons (.v 8) .nil))))) [some (wyT [true]), some (.lst [.int v, .int u]), some (.int v), some (.int k), some (.lst (nl (strip sh))), some (.int 0), none, none, none, none] S = some (.nx [some (wyT [true]), some (.lst [.int v, .int u]), some (.int v), some (.int k), some (.lst (nl (strip sh))), some (.int 0), some (.lst (tms (terms 0 sh))), none, none, none], S) := by
    have e := ev_enum (F := run T w (n + 1)) (S := S) (i := 7) (j := 8) (e := .v 4) (cond := .cmp .Gt (.v 8) (.c (.int 0))) (elt := .tup (.cons (.call 47 (.cons (.v 0) (.cons (.v 7) (.cons (.v 3) .nil)))) (.cons (.v 8) .nil))) (ρ := [some (wyT [true]), some (.lst [.int v, .int u]), some (.int v), some (.int k), some (.lst (nl (strip sh))), some (.int 0), none, none, none, none]) (l := strip sh) rfl (by omega) (fun p s hp hs => by
      have e47 := powers_ok (w := w) (n := n) (S := S) (p := p) (k := k) hc (by omega) hk2
      rw [Nat.mod_eq_of_lt (by omega)] at e47
      refine ⟨_, rfl, ?_, fun _ => ?_⟩
      · show ev _ _ [some (wyT [true]), some (.lst [.int v, .int u]), some (.int v), some (.int k), some (.lst (nl (strip sh))), some (.int 0), none, some (.int (p : Nat)), some (.int (s : Nat)), none] S = _
        simp only [ev, List.getElem?_cons_succ, List.getElem?_cons_zero, see_int, gt0]
      · show ev _ _ [some (wyT [true]), some (.lst [.int v, .int u]), some (.int v), some (.int k), some (.lst (nl (strip sh))), some (.int 0), none, some (.int (p : Nat)), some (.int (s : Nat)), none] S = _
        simp only [ev, evs, List.getElem?_cons_succ, List.getElem?_cons_zero, e47, List.length_cons, List.length_nil, Nat.zero_add, Nat.reduceAdd, two, if_true]
        rfl)
    rw [terms_strip] at e
    rw [ex, e]
    rfl
  have hts : ∀ t ∈ terms 0 sh, t.1 < 60 ∧ Bt t.2 := fun t ht => by
    obtain ⟨_, q1, _, q2⟩ := terms_mem sh 0 t ht
    have q3 := h.lt t.2 q2
    rw [h.len] at q1
    exact ⟨by omega, Nat.le_trans (Nat.lt_succ_iff.mp q3) h.big⟩
  have s6 : ev (run T w (n + 1)) (.comp false (.t [9, 8]) (.v 6) (.op .Mult (.v 8) (.call 40 (.cons (.g "FIRST" (.int 2)) (.cons (.bi .sum (.cons (.v 9) .nil)) .nil))))) [some (wyT [true]), some (.lst [.int v, .int u]), some (.int v), some (.int k), some (.lst (nl (strip sh))), some (.int 0), some (.lst (tms (terms 0 sh))), none, none, none] S = some (.lst (nl ((terms 0 sh).map fun t => t.2 * 2 ^ t.1)), S) := by
    have e := ev_comp (F := run T w (n + 1)) (S := S) (S1 := S) (t := .t [9, 8]) (it := .v 6) (elt := .op .Mult (.v 8) (.call 40 (.cons (.g "FIRST" (.int 2)) (.cons (.bi .sum (.cons (.v 9) .nil)) .nil)))) (ρ := [some (wyT [true]), some (.lst [.int v, .int u]), some (.int v), some (.int k), some (.lst (nl (strip sh))), some (.int 0), some (.lst (tms (terms 0 sh))), none, none, none]) (x := .lst (tms (terms 0 sh))) (xs := tms (terms 0 sh)) (g := gW) rfl rfl (fun d hd => by
      obtain ⟨t, ht, rfl⟩ := List.mem_map.mp hd
      obtain ⟨q1, q2⟩ := hts t ht
      have e2 := raised_ok (w := w) (n := n) (S := S) (x := 2) (t := t.1) (a := 1) (by decide) (by decide) (by omega) (by omega) (by decide)
      refine ⟨_, rfl, ?_⟩
      have m1 : opD .Mult (.int (t.2 : Int)) (.int ((2 ^ t.1 : Nat) : Int)) = some (.int ((t.2 : Int) * ((2 ^ t.1 : Nat) : Int))) := mul_tm q2
      have sm : biD .sum [.tup [.int (t.1 : Int)]] = some (.int (t.1 : Int)) := by
        show some (D.int ((t.1 : Int) + 0)) = _
        rw [Int.add_zero]
      have sd : see S (.tup [.int (t.1 : Int)]) = some (.tup [.int (t.1 : Int)]) := rfl
      show ev _ _ [some (wyT [true]), some (.lst [.int v, .int u]), some (.int v), some (.int k), some (.lst (nl (strip sh))), some (.int 0), some (.lst (tms (terms 0 sh))), none, some (.int (t.2 : Nat)), some (.tup [.int (t.1 : Nat)])] S = _
      have e2' : run T w (n + 1) 40 [.int 2, .int (t.1 : Int)] S = some (.int ((2 ^ t.1 : Nat) : Int), S) := e2
      exact turn_tm (S := S) (v8 := t.2) rfl rfl e2' m1 (gW_tm t)) (by rw [tms, List.length_map]; have := terms_len sh 0; rw [h.len] at this; omega)
    rw [map_gW] at e
    exact e
  have hsum : ((terms 0 sh).map fun t => t.2 * 2 ^ t.1).sum = v := by rw [terms_sum, h.val, Nat.pow_zero, Nat.mul_one]
  have s7 : ev (run T w (n + 1)) (.or (.cmp .Gt (.v 5) (.c (.int 0))) (.cmp .NotEq (.bi .sum (.cons (.comp false (.t [9, 8]) (.v 6) (.op .Mult (.v 8) (.call 40 (.cons (.g "FIRST" (.int 2)) (.cons (.bi .sum (.cons (.v 9) .nil)) .nil))))) .nil)) (.v 2))) [some (wyT [true]), some (.lst [.int v, .int u]), some (.int v), some (.int k), some (.lst (nl (strip sh))), some (.int 0), some (.lst (tms (terms 0 sh))), none, none, none] S = some (.bl false, S) := by
    have c0 : cmpD .Gt (.int 0) (.int 0) = some false := rfl
    have c1 : cmpD .NotEq (.int (v : Int)) (.int (v : Int)) = some false := by
      show some (!decide ((v : Int) = v)) = _
      rw [decide_eq_true rfl]; rfl
    have sn := sum_nl ((terms 0 sh).map fun t => t.2 * 2 ^ t.1)
    rw [hsum] at sn
    have q : ev (run T w (n + 1)) (.cmp .NotEq (.bi .sum (.cons (.comp false (.t [9, 8]) (.v 6) (.op .Mult (.v 8) (.call 40 (.cons (.g "FIRST" (.int 2)) (.cons (.bi .sum (.cons (.v 9) .nil)) .nil))))) .nil)) (.v 2)) [some (wyT [true]), some (.lst [.int v, .int u]), some (.int v), some (.int k), some (.lst (nl (strip sh))), some (.int 0), some (.lst (tms (terms 0 sh))), none, none, none] S = some (.bl false, S) := by
      rw [ev, ev, evs, s6]
      simp only [evs, seeAll, show see S (.lst (nl ((terms 0 sh).map fun t => t.2 * 2 ^ t.1))) = some (.lst (nl ((terms 0 sh).map fun t => t.2 * 2 ^ t.1))) from rfl, sn, ev, List.getElem?_cons_succ, List.getElem?_cons_zero, see_int, c1]
    rw [ev]
    simp only [ev, List.getElem?_cons_succ, List.getElem?_cons_zero, see_int, c0]
    exact q
  have s8 : ex (run T w (n + 1)) w (.ret (.bi .tuple (.cons (.bi .sorted (.cons (.v 6) .nil)) .nil))) [some (wyT [true]), some (.lst [.int v, .int u]), some (.int v), some (.int k), some (.lst (nl (strip sh))), some (.int 0), some (.lst (tms (terms 0 sh))), none, none, none] S = some (.rt (.tup (tms (terms 0 sh))), S) := by
    have so := sort_tms (ts := terms 0 sh) (by have := terms_len sh 0; rw [h.len] at this; omega) (terms_up sh 0)
    have sd : see S (.lst (tms (terms 0 sh))) = some (.lst (tms (terms 0 sh))) := rfl
    have bt : biD .tuple [.lst (tms (terms 0 sh))] = some (.tup (tms (terms 0 sh))) := rfl
    simp only [ex, ev, evs, List.getElem?_cons_succ, List.getElem?_cons_zero, seeAll, sd, so, bt]
  rw [b_polynomial_of, exs, s1]
  simp only []
  rw [exs, ex, s2]
  simp only [exs]
  rw [s3]
  simp only []
  rw [s4]
  simp only []
  rw [s5]
  simp only []
  rw [ex, s7]
  simp only [exs]
  rw [s8]
end Lk52

set_option Elab.async false
set_option linter.all false
set_option maxRecDepth 100000
set_option maxHeartbeats 4000000
namespace Lk52
open PySem Iv
variable {w n : Nat} {S : Sto}
theorem ixn {α : Type} {xs : List α} {i : Nat} {x : α} (h : xs[i]? = some x) : L2.atI xs (i : Int) = some x := by
  rw [atI_nat (List.getElem?_eq_some_iff.mp h).1, h]
def topc (c : Bool) : Nat := if c then 60 else 0
theorem powers_F {F : CF} {c : Bool} {p : Nat} (e : F 2 [.int (p : Int), .int 0, .int (topc c : Nat)] S = some (.bl true, S)) : exs F w b_is_powers [some (wyT [c]), some (.tup [.int (p : Int)]), none, none, none, none] S = some (.rt (.bl true), S) := by
  have one : small 1 = true := rfl
  have g1 : [Ty.list, Ty.tuple].any (isTy (.tup [.int (p : Int)])) = true := rfl
  have l0 : see S (wyT [c]) = some (wyT [c]) := rfl
  have l1 : see S (.tup [.int (p : Int)]) = some (.tup [.int (p : Int)]) := rfl
  have b0 : biD .len [wyT [c]] = some (.int 1) := rfl
  have b1 : biD .len [.tup [.int (p : Int)]] = some (.int 1) := rfl
  have c0 : cmpD .NotEq (.int 1) (.int 1) = some false := rfl
  have s1 : ev F (.or (.not (.isi (.v 1) [.list, .tuple])) (.cmp .NotEq (.bi .len (.cons (.v 1) .nil)) (.bi .len (.cons (.v 0) .nil)))) [some (wyT [c]), some (.tup [.int (p : Int)]), none, none, none, none] S = some (.bl false, S) := by
    simp only [ev, evs, List.getElem?_cons_succ, List.getElem?_cons_zero, seeAll, l0, l1, g1, b0, b1, c0, see_int, Bool.not_true]
  have s2 : ev F (.comp false (.n 3) (.v 0) (.ite (.cmp .Eq (.v 3) (.c (.int 1))) (.g "MOST_POWER" (.int 60)) (.c (.int 0)))) [some (wyT [c]), some (.tup [.int (p : Int)]), none, none, none, none] S = some (.lst [.int (topc c : Nat)], S) := by
    have z : cmpD .Eq (.int (bit c)) (.int 1) = some c := by cases c <;> rfl
    have t : ev F (.ite (.cmp .Eq (.v 3) (.c (.int 1))) (.g "MOST_POWER" (.int 60)) (.c (.int 0))) [some (wyT [c]), some (.tup [.int (p : Int)]), none, some (.int (bit c)), none, none] S = some (.int (topc c : Nat), S) := by
      have t1 : ev F (.cmp .Eq (.v 3) (.c (.int 1))) [some (wyT [c]), some (.tup [.int (p : Int)]), none, some (.int (bit c)), none, none] S = some (.bl c, S) := by
        simp only [ev, List.getElem?_cons_succ, List.getElem?_cons_zero, see_int, z]
      rw [ev, t1]
      cases c <;> rfl
    exact ev_comp (F := F) (t := .n 3) (x := wyT [c]) (xs := [.int (bit c)]) (g := fun _ => .int (topc c : Nat)) rfl rfl (fun d hd => by
      cases List.mem_singleton.mp hd
      exact ⟨_, rfl, t⟩) (by simp)
  have s3 : ev F (.comp false (.t [4, 5]) (.zipG (.v 2) (.v 1)) (.call 2 (.cons (.v 5) (.cons (.c (.int 0)) (.cons (.v 4) .nil))))) [some (wyT [c]), some (.tup [.int (p : Int)]), some (.lst [.int (topc c : Nat)]), none, none, none] S = some (.lst [.bl true], S) :=
    ev_comp (F := F) (t := .t [4, 5]) (x := .lst [.tup [.int (topc c : Nat), .int (p : Int)]]) (xs := [.tup [.int (topc c : Nat), .int (p : Int)]]) (g := fun _ => .bl true) rfl rfl (fun d hd => by
      cases List.mem_singleton.mp hd
      refine ⟨_, rfl, ?_⟩
      show ev F (.call 2 (.cons (.v 5) (.cons (.c (.int 0)) (.cons (.v 4) .nil)))) [some (wyT [c]), some (.tup [.int (p : Int)]), some (.lst [.int (topc c : Nat)]), none, some (.int (topc c : Nat)), some (.int (p : Int))] S = _
      simp only [ev, evs, List.getElem?_cons_succ, List.getElem?_cons_zero, e]) (by simp)
  have s4 : ev F (.bi .all (.cons (.comp false (.t [4, 5]) (.zipG (.v 2) (.v 1)) (.call 2 (.cons (.v 5) (.cons (.c (.int 0)) (.cons (.v 4) .nil))))) .nil)) [some (wyT [c]), some (.tup [.int (p : Int)]), some (.lst [.int (topc c : Nat)]), none, none, none] S = some (.bl true, S) := by
    rw [ev, evs, s3]
    rfl
  rw [b_is_powers, exs, ex, s1]
  simp only [exs]
  rw [ex, s2]
  simp only [setT, List.set_cons_succ, List.set_cons_zero]
  rw [ex, s4]
theorem is_powers {c : Bool} {p : Nat} (h : p ≤ topc c) : run T w (n + 3) 8 [wyT [c], .tup [.int (p : Int)]] S = some (.bl true, S) :=
  run_rts t8 rfl rfl (powers_F (within (by omega) (by omega)))
theorem term_F {F : CF} {c : Bool} {t : Nat × Nat} (e1 : F 8 [wyT [c], .tup [.int (t.1 : Int)]] S = some (.bl true, S)) (e2 : F 2 [.int (t.2 : Int), .int 1, .non] S = some (.bl true, S)) : exs F w b_is_term [some (wyT [c]), some (tmD t)] S = some (.rt (.bl true), S) := by
  have g1 : [Ty.list, Ty.tuple].any (isTy (tmD t)) = true := rfl
  have l1 : see S (tmD t) = some (tmD t) := rfl
  have b1 : biD .len [tmD t] = some (.int 2) := rfl
  have c0 : cmpD .NotEq (.int 2) (.int 2) = some false := rfl
  have i0 : ixD (tmD t) (.int 0) = some (.tup [.int (t.1 : Int)]) := rfl
  have i1 : ixD (tmD t) (.int 1) = some (.int (t.2 : Int)) := rfl
  simp only [b_is_term, exs, ex, ev, evs, List.getElem?_cons_succ, List.getElem?_cons_zero, seeAll, l1, g1, b1, c0, see_int, Bool.not_true, i0, i1, e1, e2]
theorem within1 {i : Nat} (h1 : i ≠ 0) : run T w (n + 2) 2 [.int (i : Int), .int 1, .non] S = some (.bl true, S) := by
  have z : ¬ ((i : Int) < 1) := by omega
  exact run_rts t2 rfl rfl (by simp [b_is_within, exs, ex, ev, evs, see, is_int, cmpD, z])
theorem is_term {c : Bool} {t : Nat × Nat} (h : t.1 ≤ topc c) (h2 : t.2 ≠ 0) : run T w (n + 4) 9 [wyT [c], tmD t] S = some (.bl true, S) :=
  run_rts t9 rfl rfl (term_F (is_powers h) (within1 (n := n + 1) h2))
/-- terms that a table takes -/
structure TsOk (c : Bool) (ts : List (Nat × Nat)) : Prop where
  each : ∀ t ∈ ts, t.1 ≤ topc c ∧ t.2 ≠ 0
  up : ts.Pairwise fun a b => a.1 < b.1
  len : ts.length ≤ 100
theorem lt_tup (p q : Nat) : cmpD .Lt (.tup [.int (p : Int)]) (.tup [.int (q : Int)]) = some (decide (p < q)) := by
  have h : ((D.tup [.int (p : Int)]).ok && (D.tup [.int (q : Int)]).ok && (PySem.W.alike (D.tup [.int (p : Int)]).py (D.tup [.int (q : Int)]).py && (D.tup [.int (p : Int)]).isSq)) = true := by
    have a : PySem.W.alike (D.tup [.int (p : Int)]).py (D.tup [.int (q : Int)]).py = true := alike_one p q
    have o1 : (D.tup [D.int (p : Int)]).ok = true := ok_intsT [(p : Int)]
    have o2 : (D.tup [D.int (q : Int)]).ok = true := ok_intsT [(q : Int)]
    rw [a, o1, o2]
    rfl
  have e : cmpD .Lt (.tup [.int (p : Int)]) (.tup [.int (q : Int)]) = ordD (fun a b => PySem.W.dataLt a b) (.tup [.int (p : Int)]) (.tup [.int (q : Int)]) := rfl
  rw [e, ordD, if_pos h]
  exact congrArg some (lt_one p q)
def pw (t : Nat × Nat) : D := .tup [.int (t.1 : Int)]
def pwF : D → D
  | .tup (p :: _) => p
  | d => d
theorem cut_lst (xs : List D) : slD (.lst xs) (some 1) none = some (.lst (xs.drop 1)) := by
  show some (D.lst (cutD _ _ _)) = _
  unfold cutD
  rw [HT.sIx_none, show (1 : Int) = ((1 : Nat) : Int) from rfl, HT.sIx_nat]
  cases xs with
  | nil => rfl
  | cons x l => rw [List.length_cons, Nat.min_eq_left (by omega), List.drop_succ_cons, List.drop_zero, List.take_of_length_le (by omega)]
theorem poly_F {F : CF} {c : Bool} {ts : List (Nat × Nat)} (h : TsOk c ts) (e : ∀ t ∈ ts, F 9 [wyT [c], tmD t] S = some (.bl true, S)) : exs F w b_is_polynomial [some (.int 1), some (wyT [c]), some (.tup (tms ts)), none, none, none, none] S = some (.rt (.bl true), S) := by
  have g1 : [Ty.list, Ty.tuple].any (isTy (.tup (tms ts))) = true := rfl
  have l0 : see S (wyT [c]) = some (wyT [c]) := rfl
  have l1 : see S (.tup (tms ts)) = some (.tup (tms ts)) := rfl
  have b0 : biD .len [wyT [c]] = some (.int 1) := rfl
  have c0 : cmpD .NotEq (.int 1) (.int 1) = some false := rfl
  have hl : (tms ts).length ≤ 100000 := by rw [tms, List.length_map]; have := h.len; omega
  have s1 : ev F (.or (.not (.isi (.v 2) [.list, .tuple])) (.cmp .NotEq (.bi .len (.cons (.v 1) .nil)) (.v 0))) [some (.int 1), some (wyT [c]), some (.tup (tms ts)), none, none, none, none] S = some (.bl false, S) := by
    simp only [ev, evs, List.getElem?_cons_succ, List.getElem?_cons_zero, seeAll, l0, l1, g1, b0, c0, see_int, Bool.not_true]
  have s2 : ev F (.comp false (.n 4) (.v 2) (.call 9 (.cons (.v 1) (.cons (.v 4) .nil)))) [some (.int 1), some (wyT [c]), some (.tup (tms ts)), none, none, none, none] S = some (.lst ((tms ts).map fun _ => .bl true), S) :=
    ev_comp (F := F) (t := .n 4) (x := .tup (tms ts)) (xs := tms ts) (g := fun _ => .bl true) rfl rfl (fun d hd => by
      obtain ⟨t, ht, rfl⟩ := List.mem_map.mp hd
      refine ⟨_, rfl, ?_⟩
      show ev F (.call 9 (.cons (.v 1) (.cons (.v 4) .nil))) [some (.int 1), some (wyT [c]), some (.tup (tms ts)), none, some (tmD t), none, none] S = _
      simp only [ev, evs, List.getElem?_cons_succ, List.getElem?_cons_zero, e t ht]) hl
  have al : ∀ (α : Type) (l : List α), biD .all [.lst (l.map fun _ => D.bl true)] = some (.bl true) := fun α l => all_trueD fun x hx => by
    obtain ⟨_, _, rfl⟩ := List.mem_map.mp hx
    rfl
  have s3 : ev F (.not (.bi .all (.cons (.comp false (.n 4) (.v 2) (.call 9 (.cons (.v 1) (.cons (.v 4) .nil)))) .nil))) [some (.int 1), some (wyT [c]), some (.tup (tms ts)), none, none, none, none] S = some (.bl false, S) := by
    rw [ev, ev, evs, s2]
    simp only [evs, seeAll, show see S (.lst ((tms ts).map fun _ => D.bl true)) = some (.lst ((tms ts).map fun _ => D.bl true)) from rfl, al, Bool.not_true]
  have s4 : ev F (.comp false (.n 4) (.v 2) (.bi .tuple (.cons (.ix (.v 4) (.c (.int 0))) .nil))) [some (.int 1), some (wyT [c]), some (.tup (tms ts)), none, none, none, none] S = some (.lst (ts.map pw), S) := by
    have q := ev_comp (F := F) (S := S) (S1 := S) (t := .n 4) (it := .v 2) (elt := .bi .tuple (.cons (.ix (.v 4) (.c (.int 0))) .nil)) (ρ := [some (.int 1), some (wyT [c]), some (.tup (tms ts)), none, none, none, none]) (x := .tup (tms ts)) (xs := tms ts) (g := pwF) rfl rfl (fun d hd => by
      obtain ⟨t, ht, rfl⟩ := List.mem_map.mp hd
      refine ⟨_, rfl, ?_⟩
      have i0 : ixD (tmD t) (.int 0) = some (.tup [.int (t.1 : Int)]) := rfl
      have l2 : see S (tmD t) = some (tmD t) := rfl
      have l3 : see S (.tup [.int (t.1 : Int)]) = some (.tup [.int (t.1 : Int)]) := rfl
      have b3 : biD .tuple [.tup [.int (t.1 : Int)]] = some (.tup [.int (t.1 : Int)]) := rfl
      show ev F (.bi .tuple (.cons (.ix (.v 4) (.c (.int 0))) .nil)) [some (.int 1), some (wyT [c]), some (.tup (tms ts)), none, some (tmD t), none, none] S = _
      simp only [ev, evs, List.getElem?_cons_succ, List.getElem?_cons_zero, seeAll, l2, see_int, i0, l3, b3]
      rfl) hl
    have e2 : (tms ts).map pwF = ts.map pw := by rw [tms, List.map_map]; rfl
    rw [e2] at q
    exact q
  have s5 : ev F (.comp false (.t [5, 6]) (.zipG (.v 3) (.sl (.v 3) (.c (.int 1)) (.c .non))) (.cmp .Lt (.v 5) (.v 6))) [some (.int 1), some (wyT [c]), some (.tup (tms ts)), some (.lst (ts.map pw)), none, none, none] S = some (.lst (((ts.map pw).zip ((ts.map pw).drop 1)).map fun _ => .bl true), S) := by
    have z1 : ev F (.zipG (.v 3) (.sl (.v 3) (.c (.int 1)) (.c .non))) [some (.int 1), some (wyT [c]), some (.tup (tms ts)), some (.lst (ts.map pw)), none, none, none] S = some (.lst (((ts.map pw).zip ((ts.map pw).drop 1)).map fun p => .tup [p.1, p.2]), S) := by
      have l2 : see S (.lst (ts.map pw)) = some (.lst (ts.map pw)) := rfl
      have pa1 : part? (.int 1) = some (some 1) := rfl
      have pa2 : part? .non = some none := rfl
      have gd : ((isNonE (.c (.int 1)) || isIntD (.int 1)) && (isNonE (.c .non) || isIntD .non)) = true := rfl
      simp only [ev, List.getElem?_cons_succ, List.getElem?_cons_zero, l2, see_int, show see S D.non = some D.non from rfl, gd, if_true, pa1, pa2, cut_lst, seqD]
    have q := ev_comp (F := F) (S := S) (S1 := S) (t := .t [5, 6]) (it := .zipG (.v 3) (.sl (.v 3) (.c (.int 1)) (.c .non))) (elt := .cmp .Lt (.v 5) (.v 6)) (ρ := [some (.int 1), some (wyT [c]), some (.tup (tms ts)), some (.lst (ts.map pw)), none, none, none]) (g := fun _ => .bl true) z1 rfl (fun d hd => by
      obtain ⟨⟨a, b⟩, hab, rfl⟩ := List.mem_map.mp hd
      obtain ⟨i, hi, e3⟩ := List.mem_iff_getElem.mp hab
      rw [List.getElem_zip] at e3
      have hi1 : i < ts.length := by rw [List.length_zip, List.length_map] at hi; omega
      have hi2 : 1 + i < ts.length := by rw [List.length_zip, List.length_drop, List.length_map] at hi; omega
      have ea : a = pw ts[i] := by
        have := congrArg Prod.fst e3
        simp only [List.getElem_map] at this
        exact this.symm
      have eb : b = pw ts[1 + i] := by
        have := congrArg Prod.snd e3
        simp only [List.getElem_drop, List.getElem_map] at this
        exact this.symm
      subst ea eb
      have hlt : ts[i].1 < ts[1 + i].1 := List.pairwise_iff_getElem.mp h.up i (1 + i) hi1 hi2 (by omega)
      have c1 : cmpD .Lt (pw ts[i]) (pw ts[1 + i]) = some true := by
        have := lt_tup ts[i].1 ts[1 + i].1
        rw [decide_eq_true hlt] at this
        exact this
      have l4 : ∀ t, see S (pw t) = some (pw t) := fun t => rfl
      refine ⟨_, rfl, ?_⟩
      show ev F (.cmp .Lt (.v 5) (.v 6)) [some (.int 1), some (wyT [c]), some (.tup (tms ts)), some (.lst (ts.map pw)), none, some (pw ts[i]), some (pw ts[1 + i])] S = _
      simp only [ev, List.getElem?_cons_succ, List.getElem?_cons_zero, l4, c1]) (by rw [List.length_map, List.length_zip, List.length_map]; have := h.len; omega)
    rw [List.map_map] at q
    exact q
  have s6 : ev F (.bi .all (.cons (.comp false (.t [5, 6]) (.zipG (.v 3) (.sl (.v 3) (.c (.int 1)) (.c .non))) (.cmp .Lt (.v 5) (.v 6))) .nil)) [some (.int 1), some (wyT [c]), some (.tup (tms ts)), some (.lst (ts.map pw)), none, none, none] S = some (.bl true, S) := by
    rw [ev, evs, s5]
    simp only [evs, seeAll, show ∀ l, see S (.lst l) = some (.lst l) from fun _ => rfl, al]
  rw [b_is_polynomial, exs, ex, s1]
  simp only [exs]
  rw [ex, s3]
  simp only [exs]
  rw [ex, s4]
  simp only [setT, List.set_cons_succ, List.set_cons_zero]
  rw [ex, s6]
theorem is_polynomial {c : Bool} {ts : List (Nat × Nat)} (h : TsOk c ts) : run T w (n + 5) 10 [.int 1, wyT [c], .tup (tms ts)] S = some (.bl true, S) :=
  run_rts t10 rfl rfl (poly_F h fun t ht => is_term (h.each t ht).1 (h.each t ht).2)
theorem as_poly {ts : List (Nat × Nat)} (hl : ts.length ≤ 100) : run T w (n + 1) 14 [.tup (tms ts)] S = some (.tup (tms ts), S) := by
  have q := ev_comp (F := run T w n) (S := S) (S1 := S) (t := .t [1, 2]) (it := .v 0) (elt := .tup (.cons (.bi .tuple (.cons (.v 1) .nil)) (.cons (.v 2) .nil))) (ρ := [some (.tup (tms ts)), none, none]) (x := .tup (tms ts)) (xs := tms ts) (g := id) rfl rfl (fun d hd => by
    obtain ⟨t, ht, rfl⟩ := List.mem_map.mp hd
    refine ⟨_, rfl, ?_⟩
    have l3 : see S (.tup [.int (t.1 : Int)]) = some (.tup [.int (t.1 : Int)]) := rfl
    have b3 : biD .tuple [.tup [.int (t.1 : Int)]] = some (.tup [.int (t.1 : Int)]) := rfl
    have two : small 2 = true := rfl
    show ev (run T w n) (.tup (.cons (.bi .tuple (.cons (.v 1) .nil)) (.cons (.v 2) .nil))) [some (.tup (tms ts)), some (.tup [.int (t.1 : Int)]), some (.int (t.2 : Int))] S = _
    simp only [ev, evs, List.getElem?_cons_succ, List.getElem?_cons_zero, seeAll, l3, b3, List.length_cons, List.length_nil, Nat.zero_add, Nat.reduceAdd, two, if_true]
    rfl) (by rw [tms, List.length_map]; omega)
  rw [List.map_id] at q
  refine run_rts t14 rfl rfl (S1 := S) ?_
  show exs _ _ b_as_polynomial [some (.tup (tms ts)), none, none] S = _
  rw [b_as_polynomial, exs, ex, ev, evs, q]
  simp only [evs, seeAll, show ∀ l, see S (.lst l) = some (.lst l) from fun _ => rfl, biD]
/-- rows, as a list or as a tuple -/
def rw2 (b : Bool) (a c : List (Nat × Nat)) : D := if b then .tup [.tup (tms a), .tup (tms c)] else .lst [.tup (tms a), .tup (tms c)]
theorem rows_F {F : CF} {b : Bool} {p q : List (Nat × Nat)} (e0 : F 11 [.int 1] S = some (C1, S)) (e1 : F 10 [.int 1, wyT [false], .tup (tms p)] S = some (.bl true, S)) (e2 : F 10 [.int 1, wyT [true], .tup (tms q)] S = some (.bl true, S)) : exs F w b_are_rows [some (.int 1), some (rw2 b p q), none, none, none] S = some (.rt (.bl true), S) := by
  have g1 : [Ty.list, Ty.tuple].any (isTy (rw2 b p q)) = true := by cases b <;> rfl
  have l0 : see S C1 = some C1 := rfl
  have l1 : see S (rw2 b p q) = some (rw2 b p q) := by cases b <;> rfl
  have b0 : biD .len [C1] = some (.int 2) := rfl
  have b1 : biD .len [rw2 b p q] = some (.int 2) := by cases b <;> rfl
  have c0 : cmpD .NotEq (.int 2) (.int 2) = some false := rfl
  have s0 : ex F w (.asg (.n 2) (.call 11 (.cons (.v 0) .nil))) [some (.int 1), some (rw2 b p q), none, none, none] S = some (.nx [some (.int 1), some (rw2 b p q), some C1, none, none], S) := by
    simp only [ex, ev, evs, List.getElem?_cons_zero, e0, setT, List.set_cons_succ, List.set_cons_zero]
  have s1 : ev F (.or (.not (.isi (.v 1) [.list, .tuple])) (.cmp .NotEq (.bi .len (.cons (.v 1) .nil)) (.bi .len (.cons (.v 2) .nil)))) [some (.int 1), some (rw2 b p q), some C1, none, none] S = some (.bl false, S) := by
    simp only [ev, evs, List.getElem?_cons_succ, List.getElem?_cons_zero, seeAll, l0, l1, g1, b0, b1, c0, see_int, Bool.not_true]
  have s2 : ev F (.zipG (.v 2) (.v 1)) [some (.int 1), some (rw2 b p q), some C1, none, none] S = some (.lst [.tup [wyT [false], .tup (tms p)], .tup [wyT [true], .tup (tms q)]], S) := by
    cases b <;> rfl
  have s3 : ev F (.comp false (.t [3, 4]) (.zipG (.v 2) (.v 1)) (.call 10 (.cons (.v 0) (.cons (.v 3) (.cons (.v 4) .nil))))) [some (.int 1), some (rw2 b p q), some C1, none, none] S = some (.lst [.bl true, .bl true], S) :=
    ev_comp (F := F) (t := .t [3, 4]) (g := fun _ => .bl true) s2 rfl (fun d hd => by
      simp only [List.mem_cons, List.not_mem_nil, or_false] at hd
      rcases hd with rfl | rfl
      · refine ⟨_, rfl, ?_⟩
        show ev F (.call 10 (.cons (.v 0) (.cons (.v 3) (.cons (.v 4) .nil)))) [some (.int 1), some (rw2 b p q), some C1, some (wyT [false]), some (.tup (tms p))] S = _
        simp only [ev, evs, List.getElem?_cons_succ, List.getElem?_cons_zero, e1]
      · refine ⟨_, rfl, ?_⟩
        show ev F (.call 10 (.cons (.v 0) (.cons (.v 3) (.cons (.v 4) .nil)))) [some (.int 1), some (rw2 b p q), some C1, some (wyT [true]), some (.tup (tms q))] S = _
        simp only [ev, evs, List.getElem?_cons_succ, List.getElem?_cons_zero, e2]) (by simp)
  have s4 : ev F (.bi .all (.cons (.comp false (.t [3, 4]) (.zipG (.v 2) (.v 1)) (.call 10 (.cons (.v 0) (.cons (.v 3) (.cons (.v 4) .nil))))) .nil)) [some (.int 1), some (rw2 b p q), some C1, none, none] S = some (.bl true, S) := by
    rw [ev, evs, s3]
    rfl
  rw [b_are_rows, exs, s0]
  simp only [exs]
  rw [ex, s1]
  simp only [exs]
  rw [ex, s4]
theorem are_rows {b : Bool} {p q : List (Nat × Nat)} (h1 : TsOk false p) (h2 : TsOk true q) : run T w (n + 6) 21 [.int 1, rw2 b p q] S = some (.bl true, S) :=
  run_rts t21 rfl rfl (rows_F (choices (m := 1) (by decide)) (is_polynomial h1) (is_polynomial h2))
/-- the table as it stands -/
def tabO (p q : List (Nat × Nat)) : List D := [.cl "Table" ["many", "rows"], .int 1, .tup [.tup (tms p), .tup (tms q)]]
theorem init_F {F : CF} {b : Bool} {p q : List (Nat × Nat)} (e0 : ∀ S, F 4 [.int 1] S = some (.non, S)) (e1 : ∀ S, F 21 [.int 1, rw2 b p q] S = some (.bl true, S)) (e2 : ∀ S, F 14 [.tup (tms p)] S = some (.tup (tms p), S)) (e3 : ∀ S, F 14 [.tup (tms q)] S = some (.tup (tms q), S)) :
    exs F w b_Table_init [some (.ref S.length), some (.int 1), some (rw2 b p q), none] (S ++ [some [.cl "Table" []]]) = some (.nx [some (.ref S.length), some (.int 1), some (rw2 b p q), none], S ++ [some (tabO p q)]) := by
  have p1 : putD "Table" "many" (.int 1) [.cl "Table" []] = some [.cl "Table" ["many"], .int 1] := rfl
  have p2 : putD "Table" "rows" (.tup [.tup (tms p), .tup (tms q)]) [.cl "Table" ["many"], .int 1] = some (tabO p q) := rfl
  have s1 : ∀ S, ev F (.not (.call 21 (.cons (.v 1) (.cons (.v 2) .nil)))) [some (.ref S.length), some (.int 1), some (rw2 b p q), none] S = some (.bl false, S) := fun S => by
    simp only [ev, evs, List.getElem?_cons_succ, List.getElem?_cons_zero, e1, Bool.not_true]
  have s2 : ∀ S (r : D), ev F (.bi .tuple (.cons (.comp false (.n 3) (.v 2) (.call 14 (.cons (.v 3) .nil))) .nil)) [some r, some (.int 1), some (rw2 b p q), none] S = some (.tup [.tup (tms p), .tup (tms q)], S) := fun S r => by
    have z : ev F (.v 2) [some r, some (.int 1), some (rw2 b p q), none] S = some (rw2 b p q, S) := rfl
    have c := ev_comp (F := F) (t := .n 3) (it := .v 2) (elt := .call 14 (.cons (.v 3) .nil)) (g := id) z (show items (rw2 b p q) = some [.tup (tms p), .tup (tms q)] by cases b <;> rfl) (fun d hd => by
      simp only [List.mem_cons, List.not_mem_nil, or_false] at hd
      rcases hd with rfl | rfl
      · refine ⟨_, rfl, ?_⟩
        show ev F (.call 14 (.cons (.v 3) .nil)) [some r, some (.int 1), some (rw2 b p q), some (.tup (tms p))] S = _
        simp only [ev, evs, List.getElem?_cons_succ, List.getElem?_cons_zero, e2]
        rfl
      · refine ⟨_, rfl, ?_⟩
        show ev F (.call 14 (.cons (.v 3) .nil)) [some r, some (.int 1), some (rw2 b p q), some (.tup (tms q))] S = _
        simp only [ev, evs, List.getElem?_cons_succ, List.getElem?_cons_zero, e3]
        rfl) (by simp)
    rw [ev, evs, c]
    rfl
  have s3 : ex F w (.setf "Table" (.v 0) "many" (.v 1)) [some (.ref S.length), some (.int 1), some (rw2 b p q), none] (S ++ [some [.cl "Table" []]]) = some (.nx [some (.ref S.length), some (.int 1), some (rw2 b p q), none], S ++ [some [.cl "Table" ["many"], .int 1]]) := by
    simp only [ex, ev, List.getElem?_cons_succ, List.getElem?_cons_zero, get_end, p1, set_end]
  have s4 : ex F w (.setf "Table" (.v 0) "rows" (.bi .tuple (.cons (.comp false (.n 3) (.v 2) (.call 14 (.cons (.v 3) .nil))) .nil))) [some (.ref S.length), some (.int 1), some (rw2 b p q), none] (S ++ [some [.cl "Table" ["many"], .int 1]]) = some (.nx [some (.ref S.length), some (.int 1), some (rw2 b p q), none], S ++ [some (tabO p q)]) := by
    rw [ex, s2]
    simp only [ev, List.getElem?_cons_succ, List.getElem?_cons_zero, get_end, p2, set_end]
  have s0 : ex F w (.ex (.call 4 (.cons (.v 1) .nil))) [some (.ref S.length), some (.int 1), some (rw2 b p q), none] (S ++ [some [.cl "Table" []]]) = some (.nx [some (.ref S.length), some (.int 1), some (rw2 b p q), none], S ++ [some [.cl "Table" []]]) := by
    simp only [ex, ev, evs, List.getElem?_cons_succ, List.getElem?_cons_zero, e0]
  have s1' : ev F (.not (.call 21 (.cons (.v 1) (.cons (.v 2) .nil)))) [some (.ref S.length), some (.int 1), some (rw2 b p q), none] (S ++ [some [.cl "Table" []]]) = some (.bl false, S ++ [some [.cl "Table" []]]) := by
    simp only [ev, evs, List.getElem?_cons_succ, List.getElem?_cons_zero, e1, Bool.not_true]
  rw [b_Table_init, exs, s0]
  simp only [exs]
  rw [ex, s1']
  simp only [exs]
  rw [s3]
  simp only []
  rw [s4]
end Lk52

set_option Elab.async false
set_option linter.all false
set_option maxRecDepth 100000
set_option maxHeartbeats 4000000
namespace Lk52
open PySem Iv
variable {w n : Nat} {S : Sto}
theorem t91 : T[91]? = none := rfl
theorem len_T : 91 - T.length = 29 := rfl
theorem make_at {ds : List D} : run T w (n + 1) 91 ds S = run T w n 29 ds S := by
  rw [Iv.run]
  simp only [t91, len_T]
theorem table_init {b : Bool} {p q : List (Nat × Nat)} (h1 : TsOk false p) (h2 : TsOk true q) : run T w (n + 7) 29 [.ref S.length, .int 1, rw2 b p q] (S ++ [some [.cl "Table" []]]) = some (.non, S ++ [some (tabO p q)]) := by
  have e0 : ∀ S, run T w (n + 6) 4 [.int 1] S = some (.non, S) := fun S => need_many (n := n + 2) (by decide) (by decide)
  have e1 : ∀ S, run T w (n + 6) 21 [.int 1, rw2 b p q] S = some (.bl true, S) := fun S => are_rows h1 h2
  have e2 : ∀ S, run T w (n + 6) 14 [.tup (tms p)] S = some (.tup (tms p), S) := fun S => as_poly (n := n + 5) h1.len
  have e3 : ∀ S, run T w (n + 6) 14 [.tup (tms q)] S = some (.tup (tms q), S) := fun S => as_poly (n := n + 5) h2.len
  have f := init_F (w := w) (S := S) (F := run T w (n + 6)) e0 e1 e2 e3
  refine run_nxs t29 rfl ?_ f
  rw [List.length_append, List.length_append]
  rfl
theorem make_ok {b : Bool} {p q : List (Nat × Nat)} (h1 : TsOk false p) (h2 : TsOk true q) : run T w (n + 8) 91 [.ref S.length, .int 1, rw2 b p q] (S ++ [some [.cl "Table" []]]) = some (.non, S ++ [some (tabO p q)]) :=
  make_at.trans (table_init h1 h2)
end Lk52

set_option Elab.async false
set_option linter.all false
set_option maxRecDepth 100000
set_option maxHeartbeats 4000000
namespace Lk52
open PySem Iv
variable {w n : Nat} {S : Sto}
def tbB : Ss := (.cons (.asg (.n 7) (.call 49 (.cons (.v 5) (.cons (.v 6) .nil)))) (.cons (.ifs (.cmp .Is (.v 7) (.c .non)) (.cons .never .nil) .nil) (.cons (.ex (.meth .append (.v 4) (.cons (.v 7) .nil))) .nil)))
theorem tb_turn {F : CF} {a0 a1 a2 a3 a7 : Option D} {c v : D} {p : List (Nat × Nat)} {R : List D} (hR : isObj R = false) (hl : R.length ≤ 100) (e : F 49 [c, v] (S ++ [some R]) = some (.tup (tms p), S ++ [some R])) :
    exs F w tbB [a0, a1, a2, a3, some (.ref S.length), some c, some v, a7] (S ++ [some R]) = some (.nx [a0, a1, a2, a3, some (.ref S.length), some c, some v, some (.tup (tms p))], S ++ [some (R ++ [.tup (tms p)])]) := by
  have z1 : cmpD .Is (.tup (tms p)) .non = some false := rfl
  have l1 : ∀ S, see S (.tup (tms p)) = some (.tup (tms p)) := fun _ => rfl
  have l2 : ∀ S, see S .non = some .non := fun _ => rfl
  have sm : small (R.length + 1) = true := decide_eq_true (by omega)
  have s1 : ex F w (.asg (.n 7) (.call 49 (.cons (.v 5) (.cons (.v 6) .nil)))) [a0, a1, a2, a3, some (.ref S.length), some c, some v, a7] (S ++ [some R]) = some (.nx [a0, a1, a2, a3, some (.ref S.length), some c, some v, some (.tup (tms p))], S ++ [some R]) := by
    simp only [ex, ev, evs, List.getElem?_cons_succ, List.getElem?_cons_zero, e, setT, List.set_cons_succ, List.set_cons_zero]
  rw [tbB, exs, s1]
  simp only [exs, ex, ev, evs, List.getElem?_cons_succ, List.getElem?_cons_zero, l1, l2, z1, see, get_end, hR, Bool.false_eq_true, if_false, Option.isSome, if_true, meD, Bool.not_false, Bool.true_and, sm, set_end]
theorem told_F {F : CF} {X V : D} {n0 : Nat} {p q : List (Nat × Nat)} (e50 : F 50 [.int 1, X] S = some (.non, S)) (e46 : F 46 [.int 1, X] S = some (.tup [.lst [.lst [.int (n0 : Int)], V], .non], S)) (e11 : ∀ S, F 11 [.int 1] S = some (C1, S))
    (e49a : F 49 [wyT [false], .lst [.int (n0 : Int)]] (S ++ [some []]) = some (.tup (tms p), S ++ [some []])) (e49b : F 49 [wyT [true], V] (S ++ [some [.tup (tms p)]]) = some (.tup (tms q), S ++ [some [.tup (tms p)]]))
    (e91 : F 91 [.ref (S ++ [none]).length, .int 1, rw2 false p q] (S ++ [none] ++ [some [.cl "Table" []]]) = some (.non, S ++ [none] ++ [some (tabO p q)])) :
    exs F w b_told_by [some (.int 1), some X, none, none, none, none, none, none] S = some (.rt (.ref (S ++ [none]).length), S ++ [none] ++ [some (tabO p q)]) := by
  have zer : small 0 = true := rfl
  have s0 : ex F w (.ex (.call 50 (.cons (.v 0) (.cons (.v 1) .nil)))) [some (.int 1), some X, none, none, none, none, none, none] S = some (.nx [some (.int 1), some X, none, none, none, none, none, none], S) := by
    simp only [ex, ev, evs, List.getElem?_cons_succ, List.getElem?_cons_zero, e50]
  have s1 : ex F w (.asg (.t [2, 3]) (.call 46 (.cons (.v 0) (.cons (.v 1) .nil)))) [some (.int 1), some X, none, none, none, none, none, none] S = some (.nx [some (.int 1), some X, some (.lst [.lst [.int (n0 : Int)], V]), some .non, none, none, none, none], S) := by
    simp only [ex, ev, evs, List.getElem?_cons_succ, List.getElem?_cons_zero, e46, setT, List.length_cons, List.length_nil, if_true, List.zip_cons_cons, List.zip_nil_right, List.foldl_cons, List.foldl_nil, List.set_cons_succ, List.set_cons_zero]
  have z1 : cmpD .IsNot .non .non = some false := rfl
  have l2 : ∀ S, see S .non = some .non := fun _ => rfl
  have s2 : ev F (.cmp .IsNot (.v 3) (.c .non)) [some (.int 1), some X, some (.lst [.lst [.int (n0 : Int)], V]), some .non, none, none, none, none] S = some (.bl false, S) := by
    simp only [ev, List.getElem?_cons_succ, List.getElem?_cons_zero, l2, z1]
  have s3 : ex F w (.asg (.n 4) (.new .nil)) [some (.int 1), some X, some (.lst [.lst [.int (n0 : Int)], V]), some .non, none, none, none, none] S = some (.nx [some (.int 1), some X, some (.lst [.lst [.int (n0 : Int)], V]), some .non, some (.ref S.length), none, none, none], S ++ [some []]) := by
    simp only [ex, ev, evs, List.length_nil, zer, if_true, mkList, setT, List.set_cons_succ, List.set_cons_zero]
  have s4 : ev F (.zipG (.call 11 (.cons (.v 0) .nil)) (.v 2)) [some (.int 1), some X, some (.lst [.lst [.int (n0 : Int)], V]), some .non, some (.ref S.length), none, none, none] (S ++ [some []]) = some (.lst [.tup [wyT [false], .lst [.int (n0 : Int)]], .tup [wyT [true], V]], S ++ [some []]) := by
    simp only [ev, evs, List.getElem?_cons_succ, List.getElem?_cons_zero, e11]
    rfl
  have t1 := tb_turn (w := w) (F := F) (S := S) (a0 := some (.int 1)) (a1 := some X) (a2 := some (.lst [.lst [.int (n0 : Int)], V])) (a3 := some .non) (a7 := none) (c := wyT [false]) (v := .lst [.int (n0 : Int)]) (p := p) (R := []) rfl (by decide) e49a
  have t2 := tb_turn (w := w) (F := F) (S := S) (a0 := some (.int 1)) (a1 := some X) (a2 := some (.lst [.lst [.int (n0 : Int)], V])) (a3 := some .non) (a7 := some (.tup (tms p))) (c := wyT [true]) (v := V) (p := q) (R := [.tup (tms p)]) rfl (by simp) e49b
  have s5 : ex F w (.for (.t [5, 6]) (.zipG (.call 11 (.cons (.v 0) .nil)) (.v 2)) tbB) [some (.int 1), some X, some (.lst [.lst [.int (n0 : Int)], V]), some .non, some (.ref S.length), none, none, none] (S ++ [some []]) = some (.nx [some (.int 1), some X, some (.lst [.lst [.int (n0 : Int)], V]), some .non, some (.ref S.length), some (wyT [true]), some V, some (.tup (tms q))], S ++ [some [.tup (tms p), .tup (tms q)]]) := by
    rw [ex, s4]
    simp only [items, forRun, setT, List.length_cons, List.length_nil, if_true, List.zip_cons_cons, List.zip_nil_right, List.foldl_cons, List.foldl_nil, List.set_cons_succ, List.set_cons_zero, t1, List.nil_append, t2, List.cons_append]
  have s6 : ex F w (.frz 4) [some (.int 1), some X, some (.lst [.lst [.int (n0 : Int)], V]), some .non, some (.ref S.length), some (wyT [true]), some V, some (.tup (tms q))] (S ++ [some [.tup (tms p), .tup (tms q)]]) = some (.nx [some (.int 1), some X, some (.lst [.lst [.int (n0 : Int)], V]), some .non, some (rw2 false p q), some (wyT [true]), some V, some (.tup (tms q))], S ++ [none]) := by
    have no : isObj [D.tup (tms p), .tup (tms q)] = false := rfl
    simp only [ex, List.getElem?_cons_succ, List.getElem?_cons_zero, get_end, no, Bool.false_eq_true, if_false, set_end, List.set_cons_succ, List.set_cons_zero]
    rfl
  have s7 : ex F w (.ret (.mko "Table" 91 (.cons (.v 0) (.cons (.v 4) .nil)))) [some (.int 1), some X, some (.lst [.lst [.int (n0 : Int)], V]), some .non, some (rw2 false p q), some (wyT [true]), some V, some (.tup (tms q))] (S ++ [none]) = some (.rt (.ref (S ++ [none]).length), S ++ [none] ++ [some (tabO p q)]) := by
    simp only [ex, ev, evs, List.getElem?_cons_succ, List.getElem?_cons_zero, e91]
  have e3 : b_told_by = .cons (.ex (.call 50 (.cons (.v 0) (.cons (.v 1) .nil)))) (.cons (.asg (.t [2, 3]) (.call 46 (.cons (.v 0) (.cons (.v 1) .nil)))) (.cons (.ifs (.cmp .IsNot (.v 3) (.c .non)) (.cons .never .nil) .nil) (.cons (.asg (.n 4) (.new .nil)) (.cons (.for (.t [5, 6]) (.zipG (.call 11 (.cons (.v 0) .nil)) (.v 2)) tbB) (.cons (.frz 4) (.cons (.ret (.mko "Table" 91 (.cons (.v 0) (.cons (.v 4) .nil)))) .nil)))))) := rfl
  rw [e3, exs, s0]
  simp only [exs]
  rw [s1]
  simp only []
  rw [ex, s2]
  simp only [exs]
  rw [s3]
  simp only []
  rw [s5]
  simp only []
  rw [s6]
  simp only []
  rw [s7]
theorem run_ref {f : Nat} {fn : Fn} {ds : List D} {S1 : Sto} {i : Nat} (h : T[f]? = some fn) (hl : ds.length = fn.ar) (e : exs (run T w n) w fn.body (ds.map some ++ List.replicate (fn.sl - fn.ar) none) S = some (.rt (.ref i), S1)) : run T w (n + 1) f ds S = some (.ref i, S1) := by
  rw [run_rt h hl e]
  rfl
theorem pure_tm (t : List (Nat × Nat)) : D.pure (.tup (tms t)) = true := pures_tms t
theorem clo_none (hc : clo S) : clo (S ++ [none]) := clo_app hc rfl
theorem clo_tab {p q : List (Nat × Nat)} (hc : clo S) : clo (S ++ [some (tabO p q)]) := clo_app hc (by
  have q1 := pures_unders (m := S.length + 1) (tms p) (pures_tms p)
  have q2 := pures_unders (m := S.length + 1) (tms q) (pures_tms q)
  show ((true && (true && ((D.unders (S.length + 1) (tms p) && (D.unders (S.length + 1) (tms q) && true)) && true))) && true) = true
  rw [q1, q2]
  rfl)
/-- what is told by the answers -/
def pz (n0 : Nat) : List (Nat × Nat) := if n0 = 0 then [] else [(0, n0)]
theorem pz_ok (n0 : Nat) : TsOk false (pz n0) := by
  unfold pz
  split
  · exact ⟨fun t h => (nomatch h), .nil, Nat.zero_le _⟩
  · exact ⟨(fun t h => by cases List.mem_singleton.mp h; exact ⟨Nat.le_refl _, by assumption⟩), (by simp), (by simp)⟩
theorem ts_ok {sh : List Nat} {v : Nat} (h : Sh sh v) : TsOk true (terms 0 sh) := by
  refine ⟨fun t ht => ?_, terms_up sh 0, ?_⟩
  · obtain ⟨_, q1, q2, _⟩ := terms_mem sh 0 t ht
    rw [h.len] at q1
    exact ⟨by show t.1 ≤ 60; omega, q2⟩
  · have := terms_len sh 0
    rw [h.len] at this
    omega
theorem told2 {X : D} {n0 v : Nat} {sh : List Nat} (hw : 1000 ≤ w) (hc : clo S) (hX : Src S X [an0 n0, an1 v]) (h : Sh sh v) (h1 : v ≤ 1) : run T w (n + 9) 52 [.int 1, X] S = some (.ref (S ++ [none]).length, S ++ [none] ++ [some (tabO (pz n0) (terms 0 sh))]) := by
  have e46 : run T w (n + 8) 46 [.int 1, X] S = some (.tup [.lst [.lst [.int n0], .lst [.int v]], want2 v], S) := so2 (n := n + 1) (by omega) hc hX h.big
  rw [show want2 v = .non from if_pos h1] at e46
  have et : pol1 v = .tup (tms (terms 0 sh)) := by rw [pol1, terms_small h.val h1]
  have e49 : run T w (n + 8) 49 [wyT [true], .lst [.int v]] (S ++ [some [.tup (tms (pz n0))]]) = some (pol1 v, S ++ [some [.tup (tms (pz n0))]]) := poly_one
  rw [et] at e49
  exact run_ref t52 rfl (told_F (need2 (n := n + 2) hX) e46 (fun S => choices (n := n + 3) (m := 1) (by decide)) (poly_one (c := false)) e49 (make_ok (n := n) (S := S ++ [none]) (pz_ok n0) (ts_ok h)))
theorem told3 {X : D} {n0 v : Nat} {sh : List Nat} (hw : 1000 ≤ w) (hc : clo S) (hX : Src S X [an0 n0, an1 v, an2 v (hor (v + 1) sh)]) (h : Sh sh v) (h2 : 2 ≤ v) : run T w (n + 9) 52 [.int 1, X] S = some (.ref (S ++ [none]).length, S ++ [none] ++ [some (tabO (pz n0) (terms 0 sh))]) := by
  have e46 := so3 (n := n + 1) (w := w) (by omega) hc hX h.big h2
  have hc2 : clo (S ++ [some [.tup (tms (pz n0))]]) := clo_one hc (by
    show (D.pures (tms (pz n0)) && true) = true
    rw [pures_tms]
    rfl)
  have e49 : run T w (n + 8) 49 [wyT [true], .lst [.int v, .int (hor (v + 1) sh : Nat)]] (S ++ [some [.tup (tms (pz n0))]]) = some (.tup (tms (terms 0 sh)), S ++ [some [.tup (tms (pz n0))]]) := poly_two (n := n + 6) hw hc2 h h2
  exact run_ref t52 rfl (told_F (need3 (n := n + 2) hX) e46 (fun S => choices (n := n + 3) (m := 1) (by decide)) (poly_one (c := false)) e49 (make_ok (n := n) (S := S ++ [none]) (pz_ok n0) (ts_ok h)))
end Lk52

set_option Elab.async false
set_option linter.all false
set_option maxRecDepth 100000
set_option maxHeartbeats 4000000
namespace Lk52
open PySem Iv
variable {w n : Nat} {S : Sto}
theorem lay_tms : ∀ ts : List (Nat × Nat), PyData.canLayAll0 (D.pys (tms ts)) = true
  | [] => rfl
  | t :: ts => by
    have ih := lay_tms ts
    show PyData.canLayAll0 ((tmD t).py :: D.pys (tms ts)) = true
    rw [py_tm]
    simp [PyData.canLayAll0, PyData.canLay0, ih]
theorem depth_tms : ∀ ts : List (Nat × Nat), PyData.depthAll (D.pys (tms ts)) ≤ 2
  | [] => by decide
  | t :: ts => by
    have ih := depth_tms ts
    show PyData.depthAll ((tmD t).py :: D.pys (tms ts)) ≤ 2
    rw [py_tm]
    simp [PyData.depthAll, PyData.depth, ih]
def rowsD (p q : List (Nat × Nat)) : D := .tup [.tup (tms p), .tup (tms q)]
theorem lay_rows (p q : List (Nat × Nat)) : (rowsD p q).py.canLay0 = true := by
  have h1 := lay_tms p
  have h2 := lay_tms q
  show PyData.canLay0 (.tuple [.tuple (D.pys (tms p)), .tuple (D.pys (tms q))]) = true
  simp [PyData.canLayAll0, PyData.canLay0, h1, h2]
theorem ok_rows (p q : List (Nat × Nat)) : (rowsD p q).ok = true := by
  have h1 := depth_tms p
  have h2 := depth_tms q
  have l := lay_rows p q
  have d : (rowsD p q).py.depth ≤ 190 := by
    show PyData.depth (.tuple [.tuple (D.pys (tms p)), .tuple (D.pys (tms q))]) ≤ 190
    simp only [PyData.depth, PyData.depthAll]
    omega
  have pu : (rowsD p q).pure = true := by
    show (D.pures (tms p) && (D.pures (tms q) && true)) = true
    rw [pures_tms, pures_tms]
    rfl
  unfold D.ok
  rw [l, pu, decide_eq_true d]
  rfl
theorem eqv_rows (p q : List (Nat × Nat)) : D.eqv (rowsD p q) (rowsD p q) = true := PySem.SeqAt.eqv_refl _ (lay_rows p q)
theorem eq_rows (p q : List (Nat × Nat)) : cmpD .Eq (rowsD p q) (rowsD p q) = some true := by
  show (if _ then _ else _) = _
  rw [if_pos (by rw [ok_rows]; rfl), eqv_rows]
theorem ne_rows (p q : List (Nat × Nat)) : cmpD .NotEq (rowsD p q) (rowsD p q) = some false := by
  show (if _ then _ else _) = _
  rw [if_pos (by rw [ok_rows]; rfl), eqv_rows]
  rfl
variable {p q : List (Nat × Nat)} {i j : Nat}
theorem fld_many {F : CF} {e : E} {ρ : Iv.Env} (h : ev F e ρ S = some (.ref i, S)) (hi : S[i]? = some (some (tabO p q))) : ev F (.fld "Table" e "many") ρ S = some (.int 1, S) := by
  have f : fldD "Table" "many" (tabO p q) = some (.int 1) := rfl
  simp only [ev, h, hi, f]
theorem fld_rows {F : CF} {e : E} {ρ : Iv.Env} (h : ev F e ρ S = some (.ref i, S)) (hi : S[i]? = some (some (tabO p q))) : ev F (.fld "Table" e "rows") ρ S = some (rowsD p q, S) := by
  have f : fldD "Table" "rows" (tabO p q) = some (rowsD p q) := rfl
  simp only [ev, h, hi, f]
theorem eq_ok (hi : S[i]? = some (some (tabO p q))) (hj : S[j]? = some (some (tabO p q))) : run T w (n + 1) 35 [.ref i, .ref j] S = some (.bl true, S) := by
  have v0 : ev (run T w n) (.v 0) [some (.ref i), some (.ref j)] S = some (.ref i, S) := rfl
  have v1 : ev (run T w n) (.v 1) [some (.ref i), some (.ref j)] S = some (.ref j, S) := rfl
  have c : isCD S (.ref j) ["Table"] [] = some true := by
    simp only [isCD, hj, tabO]
    rfl
  have s1 : ev (run T w n) (.isC (.v 1) "Table" ["Table"] []) [some (.ref i), some (.ref j)] S = some (.bl true, S) := by
    rw [ev, v1]
    simp only [c]
  have c1 : cmpD .Eq (.int 1) (.int 1) = some true := rfl
  have s2 : ev (run T w n) (.cmp .Eq (.fld "Table" (.v 0) "many") (.fld "Table" (.v 1) "many")) [some (.ref i), some (.ref j)] S = some (.bl true, S) := by
    rw [ev, fld_many v0 hi]
    simp only []
    rw [fld_many v1 hj]
    simp only [see_int, c1]
  have s3 : ev (run T w n) (.cmp .Eq (.fld "Table" (.v 0) "rows") (.fld "Table" (.v 1) "rows")) [some (.ref i), some (.ref j)] S = some (.bl true, S) := by
    rw [ev, fld_rows v0 hi]
    simp only []
    rw [fld_rows v1 hj]
    simp only [show see S (rowsD p q) = some (rowsD p q) from rfl, eq_rows]
  refine run_rts t35 rfl rfl ?_
  show exs _ _ b_Table_eq [some (.ref i), some (.ref j)] S = _
  rw [b_Table_eq, exs, ex, ev, s1]
  simp only []
  rw [ev, s2]
  simp only []
  rw [s3]
def pworth (x : Nat) (ts : List (Nat × Nat)) : Nat := (ts.map fun t => t.2 * x ^ t.1).sum
def woI : Ss := (.cons (.asg (.n 5) (.op .Mult (.v 5) (.call 17 (.cons (.v 6) (.cons (.v 7) .nil))))) .nil)
def woB : Ss := (.cons (.asg (.n 5) (.v 4)) (.cons (.for (.t [6, 7]) (.zipG (.v 1) (.v 3)) woI) (.cons (.asg (.n 2) (.op .Add (.v 2) (.v 5))) .nil)))
/-- numbers that may be multiplied -/
def Mu4 (x : Nat) : Prop := x < 2 ^ 4000
theorem wo_turn {F : CF} {a0 a5 a6 a7 : Option D} {b : Bool} {x acc : Nat} {t : Nat × Nat} (e : F 17 [.int (x : Int), .int (t.1 : Int)] S = some (.int ((x ^ t.1 : Nat) : Int), S)) (m : opD .Mult (.int (t.2 : Int)) (.int ((x ^ t.1 : Nat) : Int)) = some (.int ((t.2 * x ^ t.1 : Nat) : Int))) :
    exs F w woB [a0, some (row b [(x : Int)]), some (.int (acc : Int)), some (.tup [.int (t.1 : Int)]), some (.int (t.2 : Int)), a5, a6, a7] S = some (.nx [a0, some (row b [(x : Int)]), some (.int ((acc + t.2 * x ^ t.1 : Nat) : Int)), some (.tup [.int (t.1 : Int)]), some (.int (t.2 : Int)), some (.int ((t.2 * x ^ t.1 : Nat) : Int)), some (.int (x : Int)), some (.int (t.1 : Int))], S) := by
  have s1 : ex F w (.asg (.n 5) (.v 4)) [a0, some (row b [(x : Int)]), some (.int (acc : Int)), some (.tup [.int (t.1 : Int)]), some (.int (t.2 : Int)), a5, a6, a7] S = some (.nx [a0, some (row b [(x : Int)]), some (.int (acc : Int)), some (.tup [.int (t.1 : Int)]), some (.int (t.2 : Int)), some (.int (t.2 : Int)), a6, a7], S) := rfl
  have s2 : ev F (.zipG (.v 1) (.v 3)) [a0, some (row b [(x : Int)]), some (.int (acc : Int)), some (.tup [.int (t.1 : Int)]), some (.int (t.2 : Int)), some (.int (t.2 : Int)), a6, a7] S = some (.lst [.tup [.int (x : Int), .int (t.1 : Int)]], S) := by
    cases b <;> rfl
  have s3 : exs F w woI [a0, some (row b [(x : Int)]), some (.int (acc : Int)), some (.tup [.int (t.1 : Int)]), some (.int (t.2 : Int)), some (.int (t.2 : Int)), some (.int (x : Int)), some (.int (t.1 : Int))] S = some (.nx [a0, some (row b [(x : Int)]), some (.int (acc : Int)), some (.tup [.int (t.1 : Int)]), some (.int (t.2 : Int)), some (.int ((t.2 * x ^ t.1 : Nat) : Int)), some (.int (x : Int)), some (.int (t.1 : Int))], S) := by
    simp only [woI, exs, ex, ev, evs, List.getElem?_cons_succ, List.getElem?_cons_zero, e, see_int, m, setT, List.set_cons_succ, List.set_cons_zero]
  have s4 : ex F w (.for (.t [6, 7]) (.zipG (.v 1) (.v 3)) woI) [a0, some (row b [(x : Int)]), some (.int (acc : Int)), some (.tup [.int (t.1 : Int)]), some (.int (t.2 : Int)), some (.int (t.2 : Int)), a6, a7] S = some (.nx [a0, some (row b [(x : Int)]), some (.int (acc : Int)), some (.tup [.int (t.1 : Int)]), some (.int (t.2 : Int)), some (.int ((t.2 * x ^ t.1 : Nat) : Int)), some (.int (x : Int)), some (.int (t.1 : Int))], S) := by
    rw [ex, s2]
    simp only [items, forRun, setT, List.length_cons, List.length_nil, if_true, List.zip_cons_cons, List.zip_nil_right, List.foldl_cons, List.foldl_nil, List.set_cons_succ, List.set_cons_zero, s3]
  have ad : (acc : Int) + ((t.2 * x ^ t.1 : Nat) : Int) = ((acc + t.2 * x ^ t.1 : Nat) : Int) := rfl
  rw [woB, exs, s1]
  simp only []
  rw [exs, s4]
  simp only [exs, ex, ev, List.getElem?_cons_succ, List.getElem?_cons_zero, see_int, op_add, ad, setT, List.set_cons_succ, List.set_cons_zero]
theorem wo_loop {F : CF} {a0 : Option D} {b : Bool} {x : Nat} : ∀ (ts : List (Nat × Nat)) (acc : Nat) (a3 a4 a5 a6 a7 : Option D), (∀ t ∈ ts, F 17 [.int (x : Int), .int (t.1 : Int)] S = some (.int ((x ^ t.1 : Nat) : Int), S) ∧ opD .Mult (.int (t.2 : Int)) (.int ((x ^ t.1 : Nat) : Int)) = some (.int ((t.2 * x ^ t.1 : Nat) : Int))) →
    ∃ b3 b4 b5 b6 b7, forRun (.t [3, 4]) (fun ρ S => exs F w woB ρ S) (tms ts) [a0, some (row b [(x : Int)]), some (.int (acc : Int)), a3, a4, a5, a6, a7] S = some (.nx [a0, some (row b [(x : Int)]), some (.int ((acc + pworth x ts : Nat) : Int)), b3, b4, b5, b6, b7], S)
  | [], acc, a3, a4, a5, a6, a7, _ => ⟨a3, a4, a5, a6, a7, rfl⟩
  | t :: ts, acc, a3, a4, a5, a6, a7, h => by
    obtain ⟨h1, h2⟩ := h t List.mem_cons_self
    obtain ⟨b3, b4, b5, b6, b7, ih⟩ := wo_loop (F := F) (a0 := a0) (b := b) (x := x) ts (acc + t.2 * x ^ t.1) (some (.tup [.int (t.1 : Int)])) (some (.int (t.2 : Int))) (some (.int ((t.2 * x ^ t.1 : Nat) : Int))) (some (.int (x : Int))) (some (.int (t.1 : Int))) fun u hu => h u (List.mem_cons_of_mem _ hu)
    refine ⟨b3, b4, b5, b6, b7, ?_⟩
    have e := wo_turn (w := w) (F := F) (a0 := a0) (a5 := a5) (a6 := a6) (a7 := a7) (b := b) (x := x) (acc := acc) h1 h2
    have pe : acc + pworth x (t :: ts) = acc + t.2 * x ^ t.1 + pworth x ts := by
      unfold pworth
      rw [List.map_cons, List.sum_cons, Nat.add_assoc]
    show forRun _ _ (tmD t :: tms ts) _ _ = _
    rw [pe, forRun]
    simp only [tmD, setT, List.length_cons, List.length_nil, if_true, List.zip_cons_cons, List.zip_nil_right, List.foldl_cons, List.foldl_nil, List.set_cons_succ, List.set_cons_zero, e]
    exact ih
/-- numbers at which a table is asked -/
structure AtOk (x : Nat) (ts : List (Nat × Nat)) : Prop where
  small : x ≤ 2 ^ 60
  pow : ∀ t ∈ ts, t.1 ≤ 60
  share : ∀ t ∈ ts, t.2 ≤ 10 ^ 40
theorem pow3600 {x k : Nat} (h : x ≤ 2 ^ 60) (hk : k ≤ 60) : x ^ k < 2 ^ 4000 :=
  Nat.lt_of_le_of_lt (pow_le h k) (Nat.pow_lt_pow_right (by decide) (Nat.lt_of_le_of_lt (Nat.mul_le_mul_left 60 hk) (by decide)))
theorem p40 {x : Nat} (h : x ≤ 10 ^ 40) : x < 2 ^ 4000 := Nat.lt_of_le_of_lt h (Nat.lt_of_lt_of_le (show 10 ^ 40 < 2 ^ 140 by decide) (Nat.pow_le_pow_right (by decide) (by decide)))
theorem worth_ok {b : Bool} {x : Nat} {ts : List (Nat × Nat)} (h : AtOk x ts) : run T w (n + 2) 18 [.tup (tms ts), row b [(x : Int)]] S = some (.int (pworth x ts : Nat), S) := by
  have hts : ∀ t ∈ ts, run T w (n + 1) 17 [.int (x : Int), .int (t.1 : Int)] S = some (.int ((x ^ t.1 : Nat) : Int), S) ∧ opD .Mult (.int (t.2 : Int)) (.int ((x ^ t.1 : Nat) : Int)) = some (.int ((t.2 * x ^ t.1 : Nat) : Int)) := fun t ht =>
    ⟨often_ok (a := 60) h.small (by decide) (Nat.le_trans (h.pow t ht) (by decide)) (Nat.le_trans (Nat.mul_le_mul_left 60 (h.pow t ht)) (by decide)) (by decide), op_mulW (K := 4000) (p40 (h.share t ht)) (pow3600 h.small (h.pow t ht)) (by decide)⟩
  obtain ⟨b3, b4, b5, b6, b7, e⟩ := wo_loop (w := w) (S := S) (F := run T w (n + 1)) (a0 := some (.tup (tms ts))) (b := b) (x := x) ts 0 none none none none none hts
  rw [Nat.zero_add] at e
  refine run_rts t18 rfl rfl (S1 := S) ?_
  have e3 : b_worth_of = .cons (.asg (.n 2) (.c (.int 0))) (.cons (.for (.t [3, 4]) (.v 0) woB) (.cons (.ret (.v 2)) .nil)) := rfl
  show exs _ _ b_worth_of [some (.tup (tms ts)), some (row b [(x : Int)]), none, none, none, none, none, none] S = _
  have s1 : ex (run T w (n + 1)) w (.asg (.n 2) (.c (.int 0))) [some (.tup (tms ts)), some (row b [(x : Int)]), none, none, none, none, none, none] S = some (.nx [some (.tup (tms ts)), some (row b [(x : Int)]), some (.int ((0 : Nat) : Int)), none, none, none, none, none], S) := rfl
  have s2 : ex (run T w (n + 1)) w (.for (.t [3, 4]) (.v 0) woB) [some (.tup (tms ts)), some (row b [(x : Int)]), some (.int ((0 : Nat) : Int)), none, none, none, none, none] S = some (.nx [some (.tup (tms ts)), some (row b [(x : Int)]), some (.int ((pworth x ts : Nat) : Int)), b3, b4, b5, b6, b7], S) := by
    simp only [ex, ev, List.getElem?_cons_zero, items]
    exact e
  rw [e3, exs, s1]
  simp only []
  rw [exs, s2]
  simp only [exs, ex, ev, List.getElem?_cons_succ, List.getElem?_cons_zero]
theorem need_nums {b : Bool} {x : Nat} : run T w (n + 4) 6 [row b [(x : Int)], .str "numbers", .int 1] S = some (.non, S) := by
  have e := are_numbers (w := w) (n := n) (S := S) (t := b) (c := [(x : Int)]) (fun y hy => by cases List.mem_singleton.mp hy; omega) (by simp)
  have c0 : cmpD .NotEq (.int 1) (.int 1) = some false := rfl
  have l := len_row (t := b) (c := [(x : Int)])
  refine run_nxs (ρ := [some (row b [(x : Int)]), some (.str "numbers"), some (.int 1)]) t6 rfl rfl ?_
  have l' : biD .len [row b [(x : Int)]] = some (.int 1) := l
  simp only [b_need_numbers, exs, ex, ev, evs, List.map_cons, List.map_nil, List.cons_append, List.nil_append, List.getElem?_cons_succ, List.getElem?_cons_zero, e, Bool.not_true, seeAll, see_row, l', see_int, c0]
  rfl
theorem choice_of {b : Bool} {x : Nat} : run T w (n + 4) 12 [row b [(x : Int)]] S = some (wyT [decide (0 < x)], S) := by
  have e := are_numbers (w := w) (n := n) (S := S) (t := b) (c := [(x : Int)]) (fun y hy => by cases List.mem_singleton.mp hy; omega) (by simp)
  have c0 : cmpD .Gt (.int 1) (.int 3) = some false := rfl
  have l' : biD .len [row b [(x : Int)]] = some (.int 1) := len_row (t := b) (c := [(x : Int)])
  have s1 : ev (run T w (n + 3)) (.or (.not (.call 5 (.cons (.v 0) .nil))) (.cmp .Gt (.bi .len (.cons (.v 0) .nil)) (.g "MOST_MANY_polynomials" (.int 3)))) [some (row b [(x : Int)]), none] S = some (.bl false, S) := by
    simp only [ev, evs, List.getElem?_cons_zero, e, Bool.not_true, seeAll, see_row, l', see_int, c0]
  have s2 : ev (run T w (n + 3)) (.comp false (.n 1) (.v 0) (.bi .int (.cons (.cmp .Gt (.v 1) (.c (.int 0))) .nil))) [some (row b [(x : Int)]), none] S = some (.lst [.int (bit (decide (0 < x)))], S) :=
    ev_comp (F := run T w (n + 3)) (t := .n 1) (x := row b [(x : Int)]) (xs := [.int (x : Int)]) (g := fun _ => .int (bit (decide (0 < x)))) rfl (by cases b <;> rfl) (fun d hd => by
      cases List.mem_singleton.mp hd
      refine ⟨_, rfl, ?_⟩
      have bi : ∀ c : Bool, biD .int [.bl c] = some (.int (bit c)) := fun c => by cases c <;> rfl
      show ev (run T w (n + 3)) (.bi .int (.cons (.cmp .Gt (.v 1) (.c (.int 0))) .nil)) [some (row b [(x : Int)]), some (.int (x : Int))] S = _
      simp only [ev, evs, List.getElem?_cons_succ, List.getElem?_cons_zero, see_int, gt0, seeAll, show ∀ c, see S (.bl c) = some (.bl c) from fun _ => rfl, bi]) (by simp)
  refine run_rts t12 rfl rfl (S1 := S) ?_
  show exs _ _ b_choice_of [some (row b [(x : Int)]), none] S = _
  rw [b_choice_of, exs, ex, s1]
  simp only [exs]
  rw [ex, ev, evs, s2]
  rfl
theorem choice_number {c : Bool} : run T w (n + 1) 13 [wyT [c]] S = some (.int (bit c), S) := by
  have m : opD .Mult (.int 2) (.int 0) = some (.int 0) := rfl
  refine run_rts t13 rfl rfl (S1 := S) ?_
  show exs _ _ b_choice_number [some (wyT [c]), none, none] S = _
  simp only [b_choice_number, exs, ex, ev, List.getElem?_cons_succ, List.getElem?_cons_zero, setT, List.set_cons_succ, List.set_cons_zero, wyT, items, List.map_cons, List.map_nil, forRun, see_int, m, op_add, Int.zero_add]
theorem at_ok {b : Bool} {x : Nat} (hi : S[i]? = some (some (tabO p q))) (h : AtOk x (if 0 < x then q else p)) : run T w (n + 5) 30 [.ref i, row b [(x : Int)]] S = some (.int (pworth x (if 0 < x then q else p) : Nat), S) := by
  have e6 := need_nums (w := w) (n := n) (S := S) (b := b) (x := x)
  have e12 := choice_of (w := w) (n := n) (S := S) (b := b) (x := x)
  have e13 := choice_number (w := w) (n := n + 3) (S := S) (c := decide (0 < x))
  have e18 := worth_ok (w := w) (n := n + 2) (S := S) (b := b) h
  have v0 : ev (run T w (n + 4)) (.v 0) [some (.ref i), some (row b [(x : Int)])] S = some (.ref i, S) := rfl
  have ix : ixD (rowsD p q) (.int (bit (decide (0 < x)))) = some (.tup (tms (if 0 < x then q else p))) := by
    by_cases z : 0 < x
    · rw [if_pos z, decide_eq_true z]; rfl
    · rw [if_neg z, decide_eq_false z]; rfl
  have s1 : ex (run T w (n + 4)) w (.ex (.call 6 (.cons (.v 1) (.cons (.c (.str "numbers")) (.cons (.fld "Table" (.v 0) "many") .nil))))) [some (.ref i), some (row b [(x : Int)])] S = some (.nx [some (.ref i), some (row b [(x : Int)])], S) := by
    have fm := fld_many v0 hi
    simp only [ex, ev, evs, List.getElem?_cons_succ, List.getElem?_cons_zero] at fm ⊢
    simp only [fm, e6]
  have s2 : ev (run T w (n + 4)) (.ix (.fld "Table" (.v 0) "rows") (.call 13 (.cons (.call 12 (.cons (.v 1) .nil)) .nil))) [some (.ref i), some (row b [(x : Int)])] S = some (.tup (tms (if 0 < x then q else p)), S) := by
    rw [ev, fld_rows v0 hi]
    simp only [ev, evs, List.getElem?_cons_succ, List.getElem?_cons_zero, e12, e13, show see S (rowsD p q) = some (rowsD p q) from rfl, see_int, ix]
  refine run_rts t30 rfl rfl (S1 := S) ?_
  show exs _ _ b_Table_at [some (.ref i), some (row b [(x : Int)])] S = _
  rw [b_Table_at, exs, s1]
  simp only []
  rw [exs, ex, ev, evs, s2]
  simp only [evs, ev, List.getElem?_cons_succ, List.getElem?_cons_zero, e18]
end Lk52

set_option Elab.async false
set_option linter.all false
set_option maxRecDepth 100000
set_option maxHeartbeats 4000000
namespace Lk52
open PySem Iv
variable {w n : Nat} {S : Sto}
def lwT : Ss := (.cons (.asg (.n 2) (.op .Add (.op .Mult (.v 2) (.v 1)) (.v 3))) .nil)
/-- small enough for one word -/
def Wd (b : Nat) : Prop := b < 2 ^ 63
theorem mul_wd {a b : Nat} (h : Wd b) : opD .Mult (.int (a : Int)) (.int (b : Int)) = some (.int ((a * b : Nat) : Int)) := by
  have g : (decide ((a : Int).natAbs < 2 ^ 63) || decide ((b : Int).natAbs < 2 ^ 63) || (decide ((a : Int).natAbs < 2 ^ 400000) && decide ((b : Int).natAbs < 2 ^ 400000))) = true := by
    rw [Int.natAbs_natCast b, decide_eq_true (show b < 2 ^ 63 from h)]
    simp
  show (if _ then _ else _) = _
  rw [if_pos g, Int.natCast_mul]
theorem lw_loop {F : CF} {a0 : Option D} {b : Nat} (h : Wd b) : ∀ (l : List Nat) (acc : Nat) (a3 : Option D), ∃ b3, forRun (.n 3) (fun ρ S => exs F w lwT ρ S) (nl l) [a0, some (.int (b : Int)), some (.int (acc : Int)), a3] S = some (.nx [a0, some (.int (b : Int)), some (.int ((l.foldl (fun t s => t * b + s) acc : Nat) : Int)), b3], S)
  | [], acc, a3 => ⟨a3, rfl⟩
  | x :: l, acc, a3 => by
    obtain ⟨b3, ih⟩ := lw_loop (F := F) (a0 := a0) h l (acc * b + x) (some (.int (x : Int)))
    refine ⟨b3, ?_⟩
    have m := mul_wd (a := acc) h
    have ad : ((acc * b : Nat) : Int) + (x : Int) = ((acc * b + x : Nat) : Int) := rfl
    rw [nl_cons, forRun]
    simp only [setT, List.set_cons_succ, List.set_cons_zero, lwT, exs, ex, ev, List.getElem?_cons_succ, List.getElem?_cons_zero, see_int, m, op_add, ad]
    exact ih
theorem nl_rev (l : List Nat) : (nl l).reverse = nl l.reverse := by rw [nl, nl, ni, ni, List.map_reverse, List.map_reverse]
theorem lworth {sh : List Nat} {b : Nat} (h : Wd b) (hl : sh.length ≤ 1000) : run T w (n + 1) 58 [.lst (nl sh), .int (b : Int)] S = some (.int (hor b sh : Nat), S) := by
  obtain ⟨b3, e⟩ := lw_loop (w := w) (S := S) (F := run T w n) (a0 := some (.lst (nl sh))) h sh.reverse 0 none
  rw [foldl_rev] at e
  have sm : small (nl sh).length = true := decide_eq_true (by rw [nl_len]; omega)
  refine run_rts t58 rfl rfl (S1 := S) ?_
  have e3 : b__law_worth = .cons (.asg (.n 2) (.c (.int 0))) (.cons (.for (.n 3) (.rev (.v 0)) lwT) (.cons (.ret (.v 2)) .nil)) := rfl
  show exs _ _ b__law_worth [some (.lst (nl sh)), some (.int (b : Int)), none, none] S = _
  have s1 : ex (run T w n) w (.asg (.n 2) (.c (.int 0))) [some (.lst (nl sh)), some (.int (b : Int)), none, none] S = some (.nx [some (.lst (nl sh)), some (.int (b : Int)), some (.int ((0 : Nat) : Int)), none], S) := rfl
  have s2 : ev (run T w n) (.rev (.v 0)) [some (.lst (nl sh)), some (.int (b : Int)), some (.int ((0 : Nat) : Int)), none] S = some (.lst (nl sh.reverse), S) := by
    simp only [ev, List.getElem?_cons_zero, show see S (.lst (nl sh)) = some (.lst (nl sh)) from rfl, sm, if_true, nl_rev]
  have s3 : ex (run T w n) w (.for (.n 3) (.rev (.v 0)) lwT) [some (.lst (nl sh)), some (.int (b : Int)), some (.int ((0 : Nat) : Int)), none] S = some (.nx [some (.lst (nl sh)), some (.int (b : Int)), some (.int (hor b sh : Nat)), b3], S) := by
    rw [ex, s2]
    exact e
  rw [e3, exs, s1]
  simp only []
  rw [exs, s3]
  simp only [exs, ex, ev, List.getElem?_cons_succ, List.getElem?_cons_zero]
def lgT : Ss := (.cons (.ifs (.cmp .Gt (.v 3) (.c (.int 0))) (.cons (.ex (.meth .append (.v 2) (.cons (.op .Mod (.bi .int (.cons (.v 3) .nil)) (.v 1)) .nil))) (.cons (.asg (.n 3) (.op .FloorDiv (.bi .int (.cons (.v 3) .nil)) (.v 1))) .nil)) .nil) .nil)
theorem lg_zero {F : CF} {a0 a1 a2 a4 : Option D} : exs F w lgT [a0, a1, a2, some (.int ((0 : Nat) : Int)), a4] S = some (.nx [a0, a1, a2, some (.int ((0 : Nat) : Int)), a4], S) := by
  have c : cmpD .Gt (.int ((0 : Nat) : Int)) (.int 0) = some false := rfl
  simp only [lgT, exs, ex, ev, List.getElem?_cons_succ, List.getElem?_cons_zero, see_int, c]
theorem lg_step {F : CF} {a0 a4 : Option D} {b x : Nat} {fs : List Nat} (hb : 1 ≤ b) (hb2 : Bd b) (hx : x ≠ 0) (hl : fs.length < 1000) : exs F w lgT [a0, some (.int b), some (.ref S.length), some (.int x), a4] (S ++ [some (nl fs)]) = some (.nx [a0, some (.int b), some (.ref S.length), some (.int (x / b : Nat)), a4], S ++ [some (nl (fs ++ [x % b]))]) := by
  have sm : small (fs.length + 1) = true := decide_eq_true (by omega)
  have se : see (S ++ [some (nl fs)]) (.ref S.length) = some (.lst (nl fs)) := see_end
  have no : isObj (nl fs) = false := isObj_ints _
  have e : nl fs ++ [D.int ((x % b : Nat) : Int)] = nl (fs ++ [x % b]) := by rw [nl, nl, ni_app, List.map_append]; rfl
  have c : cmpD .Gt (.int (x : Int)) (.int 0) = some true := by rw [gt0, decide_eq_true (by omega)]
  have bi : biD .int [.int (x : Int)] = some (.int (x : Int)) := rfl
  have dv := div_int (x := x) hb hb2
  simp only [lgT, exs, ex, ev, evs, List.getElem?_cons_succ, List.getElem?_cons_zero, see_int, c, seeAll, bi, se, mod_int hb, dv, meD, get_end, no, Bool.not_false, Bool.true_and, nl_len, sm, set_end, Option.isSome, if_true, setT, List.set_cons_succ, List.set_cons_zero, e]
theorem lg_loop {F : CF} {a0 : Option D} {b : Nat} (hb : 1 ≤ b) (hb2 : Bd b) : ∀ (ds : List D) (x : Nat) (fs : List Nat) (a4 : Option D), x < b ^ ds.length → fs.length + ds.length ≤ 900 →
    ∃ b4, forRun (.n 4) (fun ρ S => exs F w lgT ρ S) ds [a0, some (.int b), some (.ref S.length), some (.int x), a4] (S ++ [some (nl fs)]) = some (.nx [a0, some (.int b), some (.ref S.length), some (.int ((0 : Nat) : Int)), b4], S ++ [some (nl (fs ++ digL b ds.length x))])
  | [], x, fs, a4, hx, _ => by
    have : x = 0 := by simpa using hx
    subst this
    exact ⟨a4, by simp only [forRun, List.length_nil, digL, List.append_nil]⟩
  | d :: ds, x, fs, a4, hx, hl => by
    rw [List.length_cons] at hl
    by_cases z : x = 0
    · subst z
      obtain ⟨b4, ih⟩ := lg_loop (F := F) (a0 := a0) hb hb2 ds 0 fs (some d) (Nat.pow_pos hb) (by omega)
      refine ⟨b4, ?_⟩
      have e0 : digL b ds.length 0 = [] := by cases ds.length <;> simp [digL]
      have e1 : digL b (d :: ds).length 0 = [] := by simp [digL]
      rw [e0] at ih
      rw [e1, forRun]
      simp only [setT, List.set_cons_succ, List.set_cons_zero, lg_zero]
      exact ih
    · have hx2 : x / b < b ^ ds.length := by
        rw [Nat.div_lt_iff_lt_mul (by omega), ← Nat.pow_succ]
        exact hx
      obtain ⟨b4, ih⟩ := lg_loop (F := F) (a0 := a0) hb hb2 ds (x / b) (fs ++ [x % b]) (some d) hx2 (by rw [List.length_append, List.length_singleton]; omega)
      refine ⟨b4, ?_⟩
      have st := lg_step (w := w) (F := F) (S := S) (a0 := a0) (a4 := some d) (fs := fs) hb hb2 z (by omega)
      have e1 : digL b (d :: ds).length x = x % b :: digL b ds.length (x / b) := by rw [List.length_cons, digL, if_neg z]
      rw [e1, forRun]
      simp only [setT, List.set_cons_succ, List.set_cons_zero, st]
      rw [ih, List.append_assoc]
      rfl
theorem rng80 {F : CF} {ρ : Iv.Env} : ev F (.rng (.c (.int 0)) (.c (.int 80))) ρ S = some (.lst ((List.range 80).map fun (k : Nat) => .int (0 + k)), S) := by
  rw [ev]
  simp only [ev]
  rw [if_pos (by decide)]
  rfl
theorem ldigits {x b : Nat} (hc : clo S) (hb : 1 ≤ b) (hb2 : Bd b) (hx : x < b ^ 80) : run T w (n + 1) 59 [.int (x : Int), .int (b : Int)] S = some (.lst (nl (digL b 80 x)), S) := by
  have zer : small 0 = true := rfl
  have hl : ((List.range 80).map fun (k : Nat) => D.int (0 + k)).length = 80 := by rw [List.length_map, List.length_range]
  obtain ⟨b4, e⟩ := lg_loop (w := w) (F := run T w n) (S := S) (a0 := some (.int (x : Int))) hb hb2 ((List.range 80).map fun (k : Nat) => D.int (0 + k)) x [] none (by rw [hl]; exact hx) (by rw [hl]; decide)
  rw [hl, List.nil_append] at e
  generalize digL b 80 x = dg at e ⊢
  have no : isObj (nl dg) = false := isObj_ints _
  have s1 : ex (run T w n) w (.par [2, 3] (.cons (.new .nil) (.cons (.v 0) .nil))) [some (.int (x : Int)), some (.int (b : Int)), none, none, none] S = some (.nx [some (.int (x : Int)), some (.int (b : Int)), some (.ref S.length), some (.int (x : Int)), none], S ++ [some (nl [])]) := by
    simp [ex, ev, evs, mkList, zer, nl, ni]
  have s2 : ex (run T w n) w (.for (.n 4) (.rng (.c (.int 0)) (.c (.int 80))) lgT) [some (.int (x : Int)), some (.int (b : Int)), some (.ref S.length), some (.int (x : Int)), none] (S ++ [some (nl [])]) = some (.nx [some (.int (x : Int)), some (.int (b : Int)), some (.ref S.length), some (.int ((0 : Nat) : Int)), b4], S ++ [some (nl dg)]) := by
    rw [ex, rng80]
    exact e
  have s3 : ex (run T w n) w (.frz 2) [some (.int (x : Int)), some (.int (b : Int)), some (.ref S.length), some (.int ((0 : Nat) : Int)), b4] (S ++ [some (nl dg)]) = some (.nx [some (.int (x : Int)), some (.int (b : Int)), some (.lst (nl dg)), some (.int ((0 : Nat) : Int)), b4], S ++ [none]) := by
    simp only [ex, List.getElem?_cons_succ, List.getElem?_cons_zero, get_end, no, Bool.false_eq_true, if_false, set_end, List.set_cons_succ, List.set_cons_zero]
  have c0 : cmpD .Eq (.int ((0 : Nat) : Int)) (.int 0) = some true := rfl
  refine run_rtc (X := [none]) t59 rfl hc ?_ ?_
  · show D.pures ((ni dg).map D.int) = true
    exact pures_ints _
  · have e3 : b__law_digits = .cons (.par [2, 3] (.cons (.new .nil) (.cons (.v 0) .nil))) (.cons (.for (.n 4) (.rng (.c (.int 0)) (.c (.int 80))) lgT) (.cons (.frz 2) (.cons (.ret (.ite (.cmp .Eq (.v 3) (.c (.int 0))) (.v 2) (.c .non))) .nil))) := rfl
    show exs _ _ b__law_digits [some (.int (x : Int)), some (.int (b : Int)), none, none, none] S = _
    rw [e3, exs, s1]
    simp only []
    rw [exs, s2]
    simp only []
    rw [exs, s3]
    simp only [exs, ex, ev, List.getElem?_cons_succ, List.getElem?_cons_zero, see_int, c0]
end Lk52

set_option Elab.async false
set_option linter.all false
set_option maxRecDepth 100000
set_option maxHeartbeats 4000000
namespace Lk52
open PySem Iv
variable {w n : Nat} {S R : Sto} {cs : List Int} {t h : Int}
theorem wd_lt {x m : Nat} (h : x ≤ m) (hm : Wd m) : Wd x := Nat.lt_of_le_of_lt h hm
theorem wd_int {m : Nat} (h : Wd m) : (m : Int) < 2 ^ 63 := by
  have h' : m < 2 ^ 63 := h
  omega
theorem dip_ok {m : Nat} (hm : 0 < m) (hm2 : Wd m) (t0 : 0 ≤ t) (t1 : t ≤ 1000000) (h0 : 0 ≤ h) :
    ∃ (r : Nat) (t' h' : Int), r < m ∧ t ≤ t' ∧ t' ≤ t + 1 ∧ 0 ≤ h' ∧ run T w (n + 1) 54 [.ref 0, .int (m : Int)] (some (shelf cs t h) :: R) = some (.int (r : Int), some (shelf cs t' h') :: R) := by
  obtain ⟨r, t', h', r0, r1, q1, q2, q3, e⟩ := (dr (w := w) cs).ok n R m t h (by omega) (wd_int hm2) t0 t1 h0
  obtain ⟨j, rfl⟩ := Int.eq_ofNat_of_zero_le r0
  exact ⟨j, t', h', by omega, q1, q2, q3, e⟩
theorem pick_ok {xs : List Nat} (hx : xs ≠ []) (hl : xs.length ≤ 100) (t0 : 0 ≤ t) (t1 : t ≤ 1000000) (h0 : 0 ≤ h) :
    ∃ (m : Nat) (t' h' : Int), m ∈ xs ∧ t ≤ t' ∧ t' ≤ t + 1 ∧ 0 ≤ h' ∧ run T w (n + 2) 55 [.ref 0, .lst (nl xs)] (some (shelf cs t h) :: R) = some (.int (m : Int), some (shelf cs t' h') :: R) := by
  obtain ⟨j, d, t', h', hj, q1, q2, q3, e⟩ := one_ok (n := n) (dr (w := w) cs) t55 (xs := nl xs) (by
    intro z
    have := nl_len xs
    rw [z] at this
    exact hx (List.eq_nil_of_length_eq_zero this.symm)) (by rw [nl_len]; omega) (R := R) t0 t1 h0
  rw [nl, List.getElem?_map, ni, List.getElem?_map] at hj
  cases hx2 : xs[j]? with
  | none => rw [hx2] at hj; cases hj
  | some x =>
    rw [hx2] at hj
    cases hj
    exact ⟨x, t', h', List.mem_of_getElem? hx2, q1, q2, q3, e⟩
theorem ev_dip {ρ : Iv.Env} {L : E} {xs : List Nat} {M : Nat} (hρ : ρ[0]? = some (some (.ref 0))) (hL : ∀ S, ev (run T w (n + 2)) L ρ S = some (.lst (nl xs), S)) (hx : xs ≠ []) (hl : xs.length ≤ 100) (hall : ∀ m ∈ xs, 0 < m ∧ m ≤ M) (hM : Wd M) (t0 : 0 ≤ t) (t1 : t + 2 ≤ 1000000) (h0 : 0 ≤ h) :
    ∃ (r : Nat) (t' h' : Int), r < M ∧ t ≤ t' ∧ t' ≤ t + 2 ∧ 0 ≤ h' ∧ ev (run T w (n + 2)) (.call 54 (.cons (.v 0) (.cons (.call 55 (.cons (.v 0) (.cons L .nil))) .nil))) ρ (some (shelf cs t h) :: R) = some (.int (r : Int), some (shelf cs t' h') :: R) := by
  obtain ⟨m, t', h', hm, q1, q2, q3, e⟩ := pick_ok (w := w) (n := n) (cs := cs) (R := R) hx hl t0 (by omega) h0
  obtain ⟨m0, m1⟩ := hall m hm
  obtain ⟨r, t2, h2, r1, p1, p2, p3, e2⟩ := dip_ok (w := w) (n := n + 1) (cs := cs) (R := R) m0 (wd_lt m1 hM) (show 0 ≤ t' by omega) (by omega) q3
  refine ⟨r, t2, h2, by omega, by omega, by omega, p3, ?_⟩
  simp only [ev, evs, hρ, hL, e, e2]
theorem hor_set (b : Nat) : ∀ (l : List Nat) (i s : Nat), i < l.length → hor b (l.set i (l.getD i 0 + s)) = hor b l + s * b ^ i
  | [], i, s, h => by cases h
  | x :: l, 0, s, _ => by
    simp only [List.set_cons_zero, List.getD_cons_zero, hor, Nat.pow_zero, Nat.mul_one]
    omega
  | x :: l, i + 1, s, h => by
    have ih := hor_set b l i s (by simpa using h)
    simp only [List.set_cons_succ, List.getD_cons_succ, hor, ih]
    have e : b ^ i * b = b ^ (i + 1) := (Nat.pow_succ ..).symm
    rw [Nat.add_mul, Nat.mul_assoc, e]
    omega
theorem nl_set (l : List Nat) (i x : Nat) : (nl l).set i (.int (x : Int)) = nl (l.set i x) := by
  rw [nl, nl, ni, ni, List.map_set, List.map_set]
theorem nl_get {l : List Nat} {i : Nat} (h : i < l.length) : ixD (.lst (nl l)) (.int (i : Int)) = some (.int ((l.getD i 0 : Nat) : Int)) := by
  rw [ix_lst, atI_nat (by rw [nl_len]; exact h), nl, List.getElem?_map, ni, List.getElem?_map, List.getD_eq_getElem?_getD, List.getElem?_eq_getElem h]
  rfl
theorem ix_nl {l : List Nat} {i : Nat} (h : i < l.length) : L2.ixN (nl l).length (i : Int) = some i := by
  rw [nl_len]
  unfold L2.ixN
  rw [if_pos (by omega), if_pos (by omega), Int.toNat_natCast]
def shC : E := (.cmp .LtE (.op .Add (.v 2) (.op .Mult (.v 5) (.call 56 (.cons (.c (.int 2)) (.cons (.v 4) .nil))))) (.op .Pow (.c (.int 10)) (.c (.int 18))))
def shA : Ss := (.cons (.put (.v 1) (.v 4) (.op .Add (.ix (.v 1) (.v 4)) (.v 5))) (.cons (.asg (.n 2) (.op .Add (.v 2) (.op .Mult (.v 5) (.call 56 (.cons (.c (.int 2)) (.cons (.v 4) .nil)))))) .nil))
def shP : E := (.call 54 (.cons (.v 0) (.cons (.call 55 (.cons (.v 0) (.cons (.lst (.cons (.c (.int 4)) (.cons (.c (.int 12)) (.cons (.c (.int 60)) (.cons (.c (.int 2)) .nil))))) .nil))) .nil)))
def shQ : E := (.call 54 (.cons (.v 0) (.cons (.call 55 (.cons (.v 0) (.cons (.lst (.cons (.c (.int 1)) (.cons (.c (.int 9)) (.cons (.c (.int 1000)) (.cons (.op .Pow (.c (.int 10)) (.c (.int 12))) .nil))))) .nil))) .nil)))
def shT : Ss := (.cons (.asg (.n 4) shP) (.cons (.asg (.n 5) (.op .Add (.c (.int 1)) shQ)) (.cons (.ifs shC shA .nil) .nil)))
theorem sh_body : b__law_shares = .cons (.par [1, 2] (.cons (.newop .Mult (.lst (.cons (.c (.int 0)) .nil)) (.c (.int 60))) (.cons (.c (.int 0)) .nil))) (.cons (.for (.n 3) (.rng (.c (.int 0)) (.call 54 (.cons (.v 0) (.cons (.c (.int 7)) .nil)))) shT) (.cons (.ret (.frz 1)) .nil)) := rfl
/-- the condition, and what follows -/
theorem sh_if {F : CF} {a3 : Option D} {sh : List Nat} {v p s : Nat} {X : Option (List D)} (e : ∀ S, F 56 [.int 2, .int (p : Int)] S = some (.int ((2 ^ p : Nat) : Int), S)) (m : opD .Mult (.int (s : Int)) (.int ((2 ^ p : Nat) : Int)) = some (.int ((s * 2 ^ p : Nat) : Int))) (hp : p < sh.length) :
    ex F w (.ifs shC shA .nil) [some (.ref 0), some (.ref 1), some (.int (v : Int)), a3, some (.int (p : Int)), some (.int (s : Int))] [X, some (nl sh)] = some (if v + s * 2 ^ p ≤ 10 ^ 18 then (.nx [some (.ref 0), some (.ref 1), some (.int ((v + s * 2 ^ p : Nat) : Int)), a3, some (.int (p : Int)), some (.int (s : Int))], [X, some (nl (sh.set p (sh.getD p 0 + s)))]) else (.nx [some (.ref 0), some (.ref 1), some (.int (v : Int)), a3, some (.int (p : Int)), some (.int (s : Int))], [X, some (nl sh)])) := by
  have pw18 : opD .Pow (.int 10) (.int 18) = some (.int ((10 ^ 18 : Nat) : Int)) := by rw [op_pow (by decide) (by decide) (by decide)]; rfl
  have le : ∀ a b : Nat, cmpD .LtE (.int (a : Int)) (.int (b : Int)) = some (decide (a ≤ b)) := fun a b => by
    have z : decide ((a : Int) ≤ (b : Int)) = decide (a ≤ b) := decide_eq_decide.mpr Int.ofNat_le
    show some (decide ((a : Int) ≤ (b : Int))) = _
    rw [z]
  have ad : ∀ a b : Nat, opD .Add (.int (a : Int)) (.int (b : Int)) = some (.int ((a + b : Nat) : Int)) := fun a b => rfl
  have no : isObj (nl sh) = false := isObj_ints _
  generalize hM : 10 ^ 18 = M at pw18 ⊢
  generalize hK : s * 2 ^ p = K at m ⊢
  have s1 : ev F shC [some (.ref 0), some (.ref 1), some (.int (v : Int)), a3, some (.int (p : Int)), some (.int (s : Int))] [X, some (nl sh)] = some (.bl (decide (v + K ≤ M)), [X, some (nl sh)]) := by
    simp only [shC, ev, evs, List.getElem?_cons_succ, List.getElem?_cons_zero, e, see_int, m, ad, pw18, le]
  rw [ex, s1]
  by_cases z : v + K ≤ M
  · rw [decide_eq_true z, if_pos z]
    have sv : see [X, some (nl sh)] (.ref 1) = some (.lst (nl sh)) := by simp only [see, List.getElem?_cons_succ, List.getElem?_cons_zero, no, Bool.false_eq_true, if_false]
    simp only [shA, exs, ex, ev, evs, List.getElem?_cons_succ, List.getElem?_cons_zero, sv, see_int, nl_get hp, ad, ix_nl hp, no, Bool.false_eq_true, if_false, List.set_cons_succ, List.set_cons_zero, nl_set, e, m, setT]
  · rw [decide_eq_false z, if_neg z]
    simp only [exs]
theorem clo_sh (hR : closedS (R.length + 1) R = true) : clo (some (shelf cs t h) :: R) := by
  have q : D.unders (R.length + 1) (shelf cs t h) = true := by
    show (D.unders _ (cs.map D.int) && _) = true
    rw [unders_ints]
    rfl
  show (D.unders (R.length + 1) (shelf cs t h) && closedS (R.length + 1) R) = true
  rw [q, hR]
  rfl
/-- a run that leaves its places behind, and the tub changed -/
theorem run_rtm {f : Nat} {fn : Fn} {ds : List D} {S2 X : Sto} {d : D} (h : T[f]? = some fn) (hl : ds.length = fn.ar) (hs : S2.length = S.length) (hc : clo S2) (hp : D.pure d = true) (e : exs (run T w n) w fn.body (ds.map some ++ List.replicate (fn.sl - fn.ar) none) S = some (.rt d, S2 ++ X)) : run T w (n + 1) f ds S = some (d, S2) := by
  rw [run_rt h hl e, ← hs, leave_clo hc hp]
theorem two_pow {p : Nat} (hp : p < 60) : run T w (n + 1) 56 [.int 2, .int (p : Int)] S = some (.int ((2 ^ p : Nat) : Int), S) :=
  pow_run (x := 2) (t := p) (a := 1) t56 (by decide) (by decide) (Nat.le_trans (Nat.le_of_lt hp) (by decide)) (by rw [Nat.one_mul]; exact Nat.le_trans (Nat.le_of_lt hp) (by decide)) (by decide)
theorem wd12 {s : Nat} (h : s ≤ 10 ^ 12) : Wd s := Nat.lt_of_le_of_lt h (by decide)
theorem mul_wl {a b : Nat} (h : Wd a) : opD .Mult (.int (a : Int)) (.int (b : Int)) = some (.int ((a * b : Nat) : Int)) := by
  have g : (decide ((a : Int).natAbs < 2 ^ 63) || decide ((b : Int).natAbs < 2 ^ 63) || (decide ((a : Int).natAbs < 2 ^ 400000) && decide ((b : Int).natAbs < 2 ^ 400000))) = true := by
    rw [Int.natAbs_natCast a, decide_eq_true (show a < 2 ^ 63 from h)]
    rfl
  show (if _ then _ else _) = _
  rw [if_pos g, Int.natCast_mul]
def Tn (v : Nat) : Nat := 1 + v
theorem sh_turn {sh : List Nat} {v : Nat} (hs : Sh sh v) (t0 : 0 ≤ t) (t1 : t + 4 ≤ 1000000) (h0 : 0 ≤ h) (a3 a4 a5 : Option D) :
    ∃ (sh' : List Nat) (v' : Nat) (t' h' : Int) (b4 b5 : Option D), Sh sh' v' ∧ t ≤ t' ∧ t' ≤ t + 4 ∧ 0 ≤ h' ∧ exs (run T w (n + 2)) w shT [some (.ref 0), some (.ref 1), some (.int (v : Int)), a3, a4, a5] [some (shelf cs t h), some (nl sh)] = some (.nx [some (.ref 0), some (.ref 1), some (.int (v' : Int)), a3, b4, b5], [some (shelf cs t' h'), some (nl sh')]) := by
  have sm4 : small 4 = true := rfl
  obtain ⟨p, ta, ha, p1, p2, p3, p4, e1⟩ := ev_dip (w := w) (n := n) (cs := cs) (R := [some (nl sh)]) (ρ := [some (.ref 0), some (.ref 1), some (.int (v : Int)), a3, a4, a5]) (L := .lst (.cons (.c (.int 4)) (.cons (.c (.int 12)) (.cons (.c (.int 60)) (.cons (.c (.int 2)) .nil))))) (xs := [4, 12, 60, 2]) (M := 60) rfl (fun S => by
    simp only [ev, evs, List.length_cons, List.length_nil, Nat.zero_add, Nat.reduceAdd, sm4, if_true]
    rfl) (by simp) (by decide) (by decide) (show 60 < 2 ^ 63 by decide) t0 (by omega) h0
  have pw12 : opD .Pow (.int 10) (.int 12) = some (.int ((1000000000000 : Nat) : Int)) := by rw [op_pow (by decide) (by decide) (by decide)]; rfl
  obtain ⟨s, tb, hb, q1, q2, q3, q4, e2⟩ := ev_dip (w := w) (n := n) (cs := cs) (R := [some (nl sh)]) (ρ := [some (.ref 0), some (.ref 1), some (.int (v : Int)), a3, some (.int (p : Int)), a5]) (L := .lst (.cons (.c (.int 1)) (.cons (.c (.int 9)) (.cons (.c (.int 1000)) (.cons (.op .Pow (.c (.int 10)) (.c (.int 12))) .nil))))) (xs := [1, 9, 1000, 1000000000000]) (M := 1000000000000) rfl (fun S => by
    simp only [ev, evs, see_int, pw12, List.length_cons, List.length_nil, Nat.zero_add, Nat.reduceAdd, sm4, if_true]
    rfl) (by simp) (by decide) (by decide) (show 1000000000000 < 2 ^ 63 by decide) (show 0 ≤ ta by omega) (by omega) p4
  have hp : p < sh.length := by rw [hs.len]; exact p1
  have ms : Wd (1 + s) := wd12 (by omega)
  have e3 := sh_if (w := w) (F := run T w (n + 2)) (a3 := a3) (sh := sh) (v := v) (p := p) (s := 1 + s) (X := some (shelf cs tb hb)) (fun S => two_pow (n := n + 1) p1) (mul_wl ms) hp
  have g1 : ex (run T w (n + 2)) w (.asg (.n 4) shP) [some (.ref 0), some (.ref 1), some (.int (v : Int)), a3, a4, a5] [some (shelf cs t h), some (nl sh)] = some (.nx [some (.ref 0), some (.ref 1), some (.int (v : Int)), a3, some (.int (p : Int)), a5], [some (shelf cs ta ha), some (nl sh)]) := by
    rw [ex, shP, e1]
    rfl
  have g2 : ex (run T w (n + 2)) w (.asg (.n 5) (.op .Add (.c (.int 1)) shQ)) [some (.ref 0), some (.ref 1), some (.int (v : Int)), a3, some (.int (p : Int)), a5] [some (shelf cs ta ha), some (nl sh)] = some (.nx [some (.ref 0), some (.ref 1), some (.int (v : Int)), a3, some (.int (p : Int)), some (.int ((1 + s : Nat) : Int))], [some (shelf cs tb hb), some (nl sh)]) := by
    have c1 : ev (run T w (n + 2)) (.c (.int 1)) [some (.ref 0), some (.ref 1), some (.int (v : Int)), a3, some (.int (p : Int)), a5] [some (shelf cs ta ha), some (nl sh)] = some (.int 1, [some (shelf cs ta ha), some (nl sh)]) := rfl
    have ad : opD .Add (.int 1) (.int (s : Int)) = some (.int ((1 + s : Nat) : Int)) := rfl
    rw [ex, ev, c1]
    simp only []
    rw [shQ, e2]
    simp only [see_int, ad, setT, List.set_cons_succ, List.set_cons_zero]
  have hv := hor_set 2 sh p (1 + s) hp
  rw [hs.val] at hv
  by_cases z : v + (1 + s) * 2 ^ p ≤ 10 ^ 18
  · rw [if_pos z] at e3
    refine ⟨sh.set p (sh.getD p 0 + (1 + s)), v + (1 + s) * 2 ^ p, tb, hb, some (.int (p : Int)), some (.int ((1 + s : Nat) : Int)), ⟨by rw [List.length_set]; exact hs.len, hv, z⟩, by omega, by omega, q4, ?_⟩
    rw [shT, exs, g1]
    simp only []
    rw [exs, g2]
    simp only []
    rw [exs, e3]
    simp only [exs]
  · rw [if_neg z] at e3
    refine ⟨sh, v, tb, hb, some (.int (p : Int)), some (.int ((1 + s : Nat) : Int)), hs, by omega, by omega, q4, ?_⟩
    rw [shT, exs, g1]
    simp only []
    rw [exs, g2]
    simp only []
    rw [exs, e3]
    simp only [exs]
theorem sh_loop : ∀ (ds : List D) (sh : List Nat) (v : Nat) (t h : Int) (a3 a4 a5 : Option D), Sh sh v → 0 ≤ t → t + 4 * ds.length ≤ 1000000 → 0 ≤ h →
    ∃ (sh' : List Nat) (v' : Nat) (t' h' : Int) (b3 b4 b5 : Option D), Sh sh' v' ∧ t ≤ t' ∧ t' ≤ t + 4 * ds.length ∧ 0 ≤ h' ∧ forRun (.n 3) (fun ρ S => exs (run T w (n + 2)) w shT ρ S) ds [some (.ref 0), some (.ref 1), some (.int (v : Int)), a3, a4, a5] [some (shelf cs t h), some (nl sh)] = some (.nx [some (.ref 0), some (.ref 1), some (.int (v' : Int)), b3, b4, b5], [some (shelf cs t' h'), some (nl sh')])
  | [], sh, v, t, h, a3, a4, a5, hs, t0, t1, h0 => ⟨sh, v, t, h, a3, a4, a5, hs, Int.le_refl _, by simp, h0, rfl⟩
  | d :: ds, sh, v, t, h, a3, a4, a5, hs, t0, t1, h0 => by
    rw [List.length_cons] at t1
    obtain ⟨s1, v1, ta, ha, b4, b5, hs1, p1, p2, p3, e1⟩ := sh_turn (w := w) (n := n) (cs := cs) hs t0 (by omega) h0 (some d) a4 a5
    obtain ⟨s2, v2, tb, hb, c3, c4, c5, hs2, q1, q2, q3, e2⟩ := sh_loop ds s1 v1 ta ha (some d) b4 b5 hs1 (by omega) (by omega) p3
    refine ⟨s2, v2, tb, hb, c3, c4, c5, hs2, by omega, by rw [List.length_cons]; omega, q3, ?_⟩
    rw [forRun]
    simp only [setT, List.set_cons_succ, List.set_cons_zero, e1]
    exact e2
theorem hor_zeros (b : Nat) : ∀ k, hor b (List.replicate k 0) = 0
  | 0 => rfl
  | k + 1 => by rw [List.replicate_succ, hor, hor_zeros b k]; simp
theorem sh_zero : Sh (List.replicate 60 0) 0 := ⟨rfl, hor_zeros 2 60, Nat.zero_le _⟩
theorem shares_ok (t0 : 0 ≤ t) (t1 : t + 40 ≤ 1000000) (h0 : 0 ≤ h) : ∃ (sh : List Nat) (v : Nat) (t' h' : Int), Sh sh v ∧ t ≤ t' ∧ t' ≤ t + 40 ∧ 0 ≤ h' ∧ run T w (n + 3) 57 [.ref 0] [some (shelf cs t h)] = some (.lst (nl sh), [some (shelf cs t' h')]) := by
  obtain ⟨r, ta, ha, r1, r2, r3, r4, e1⟩ := dip_ok (w := w) (n := n + 1) (cs := cs) (R := [some (nl (List.replicate 60 0))]) (m := 7) (by decide) (show 7 < 2 ^ 63 by decide) t0 (by omega) h0
  have hlen : ((List.range r).map fun (k : Nat) => D.int (0 + k)).length = r := by rw [List.length_map, List.length_range]
  obtain ⟨sh, v, tb, hb, b3, b4, b5, hs, q1, q2, q3, e2⟩ := sh_loop (w := w) (n := n) (cs := cs) ((List.range r).map fun (k : Nat) => D.int (0 + k)) (List.replicate 60 0) 0 ta ha none none none sh_zero (by omega) (by rw [hlen]; omega) r4
  rw [hlen] at q2
  refine ⟨sh, v, tb, hb, hs, by omega, by omega, q3, ?_⟩
  have one : small 1 = true := rfl
  have s1 : ex (run T w (n + 2)) w (.par [1, 2] (.cons (.newop .Mult (.lst (.cons (.c (.int 0)) .nil)) (.c (.int 60))) (.cons (.c (.int 0)) .nil))) [some (.ref 0), none, none, none, none, none] [some (shelf cs t h)] = some (.nx [some (.ref 0), some (.ref 1), some (.int ((0 : Nat) : Int)), none, none, none], [some (shelf cs t h), some (nl (List.replicate 60 0))]) := by
    have z : opD .Mult (.lst [.int 0]) (.int 60) = some (.lst (nl (List.replicate 60 0))) := rfl
    simp [ex, ev, evs, one, see, z, mkList]
  have s2 : ex (run T w (n + 2)) w (.for (.n 3) (.rng (.c (.int 0)) (.call 54 (.cons (.v 0) (.cons (.c (.int 7)) .nil)))) shT) [some (.ref 0), some (.ref 1), some (.int ((0 : Nat) : Int)), none, none, none] [some (shelf cs t h), some (nl (List.replicate 60 0))] = some (.nx [some (.ref 0), some (.ref 1), some (.int (v : Int)), b3, b4, b5], [some (shelf cs tb hb), some (nl sh)]) := by
    have e1' : run T w (n + 2) 54 [.ref 0, .int 7] [some (shelf cs t h), some (nl (List.replicate 60 0))] = some (.int (r : Int), [some (shelf cs ta ha), some (nl (List.replicate 60 0))]) := e1
    have rg : ev (run T w (n + 2)) (.rng (.c (.int 0)) (.call 54 (.cons (.v 0) (.cons (.c (.int 7)) .nil)))) [some (.ref 0), some (.ref 1), some (.int ((0 : Nat) : Int)), none, none, none] [some (shelf cs t h), some (nl (List.replicate 60 0))] = some (.lst ((List.range r).map fun (k : Nat) => .int (0 + k)), [some (shelf cs ta ha), some (nl (List.replicate 60 0))]) := by
      have g1 : (decide (-(2 ^ 62) ≤ (0 : Int)) && decide ((0 : Int) < 2 ^ 62) && decide (-(2 ^ 62) ≤ (r : Int)) && decide ((r : Int) < 2 ^ 62)) = true := by
        simp only [Bool.and_eq_true, decide_eq_true_eq]; omega
      have g2 : ((r : Int) - 0).toNat = r := by omega
      rw [ev]
      simp only [ev, evs, List.getElem?_cons_zero, e1']
      rw [if_pos g1, g2]
    rw [ex, rg]
    exact e2
  have no : isObj (nl sh) = false := isObj_ints _
  have s3 : ex (run T w (n + 2)) w (.ret (.frz 1)) [some (.ref 0), some (.ref 1), some (.int (v : Int)), b3, b4, b5] [some (shelf cs tb hb), some (nl sh)] = some (.rt (.lst (nl sh)), [some (shelf cs tb hb)] ++ [none]) := by
    simp only [ex, ev, List.getElem?_cons_succ, List.getElem?_cons_zero, no, Bool.false_eq_true, if_false, List.set_cons_succ, List.set_cons_zero]
    rfl
  refine run_rtm (S2 := [some (shelf cs tb hb)]) (X := [none]) t57 rfl rfl (clo_sh rfl) (pures_ints (ni sh)) ?_
  show exs _ _ b__law_shares [some (.ref 0), none, none, none, none, none] [some (shelf cs t h)] = _
  rw [sh_body, exs, s1]
  simp only []
  rw [exs, s2]
  simp only []
  rw [exs, s3]
end Lk52

set_option Elab.async false
set_option linter.all false
set_option maxRecDepth 100000
set_option maxHeartbeats 4000000
namespace Lk52
open PySem Iv
variable {w n : Nat} {S R : Sto} {cs : List Int} {t h : Int} {sh : List Nat} {n0 v u : Nat}
def q0 : St := (.asg (.n 3) (.call 58 (.cons (.v 1) (.cons (.c (.int 2)) .nil))))
def q1 : St := (.asg (.n 4) (.new (.cons (.tup (.cons (.tup (.cons (.c (.int 0)) .nil)) (.cons (.v 2) .nil))) (.cons (.lst (.cons (.lst (.cons (.c (.int 2)) .nil)) (.cons (.v 3) .nil))) .nil))))
def q2 : St := (.ifs (.cmp .Gt (.v 3) (.c (.int 1))) (.cons (.asg (.n 11) (.call 58 (.cons (.v 1) (.cons (.op .Add (.v 3) (.c (.int 1))) .nil)))) (.cons (.asg (.n 12) (.call 59 (.cons (.v 11) (.cons (.op .Add (.v 3) (.c (.int 1))) .nil)))) (.cons (.ifs (.or (.cmp .NotEq (.call 51 (.cons (.c (.int 1)) (.cons (.v 4) .nil))) (.tup (.cons (.op .Add (.v 3) (.c (.int 1))) .nil))) (.or (.cmp .NotEq (.v 12) (.sl (.v 1) (.c .non) (.bi .len (.cons (.v 12) .nil)))) (.cmp .NotEq (.bi .sum (.cons (.sl (.v 1) (.bi .len (.cons (.v 12) .nil)) (.c .non)) .nil)) (.c (.int 0))))) (.cons (.ret (.c (.bl false))) .nil) .nil) (.cons (.ex (.meth .append (.v 4) (.cons (.tup (.cons (.tup (.cons (.op .Add (.v 3) (.c (.int 1))) .nil)) (.cons (.v 11) .nil))) .nil))) .nil)))) .nil)
def q3 : St := (.asg (.n 5) (.callK 52 .nil (.cons (.v 4) (.cons (.c (.int 1)) Es.nil)) [1, 0]))
def q4 : St := (.asg (.n 6) (.bi .tuple (.cons (.compI false (.t [13, 14]) (.enum (.v 1)) (.cmp .Gt (.v 14) (.c (.int 0))) (.tup (.cons (.tup (.cons (.v 13) .nil)) (.cons (.v 14) .nil)))) .nil)))
def q5 : St := (.asg (.n 7) (.tup (.cons (.ite (.cmp .Gt (.v 2) (.c (.int 0))) (.tup (.cons (.tup (.cons (.tup (.cons (.c (.int 0)) .nil)) (.cons (.v 2) .nil))) .nil)) (.tup .nil)) (.cons (.v 6) .nil))))
def q6 : St := (.ifs (.or (.not (.isC (.v 5) "Table" ["Table"] [])) (.or (.cmp .NotEq (.fld "Table" (.v 5) "many") (.c (.int 1))) (.or (.cmp .NotEq (.fld "Table" (.v 5) "rows") (.v 7)) (.or (.oeq true "Table" 97 (.v 5) (.mko "Table" 91 (.cons (.c (.int 1)) (.cons (.v 7) .nil)))) (.cmp .IsNot (.call 51 (.cons (.c (.int 1)) (.cons (.v 4) .nil))) (.c .non)))))) (.cons (.ret (.c (.bl false))) .nil) .nil)
def q7 : St := (.ifs (.cmp .NotEq (.compI false (.n 15) (.ix (.fld "Table" (.v 5) "rows") (.c (.int 1))) (.or (.isi (.ix (.v 15) (.c (.int 1))) [.bool]) (.not (.isi (.ix (.v 15) (.c (.int 0))) [.tuple]))) (.v 15)) (.lst .nil)) (.cons (.ret (.c (.bl false))) .nil) .nil)
def q8 : St := (.frz 4)
def q9 : St := (.for (.t [8, 9]) (.v 4) (.cons (.ifs (.cmp .NotEq (.mcall "Table" "at" 30 (.v 5) (.cons (.bi .list (.cons (.v 8) .nil)) .nil)) (.v 9)) (.cons (.ret (.c (.bl false))) .nil) .nil) .nil))
def q10 : St := (.asg (.n 10) (.op .Add (.c (.int 1)) (.call 54 (.cons (.v 0) (.cons (.call 55 (.cons (.v 0) (.cons (.lst (.cons (.c (.int 9)) (.cons (.c (.int 1000)) (.cons (.op .Pow (.c (.int 10)) (.c (.int 15))) .nil)))) .nil))) .nil)))))
def q11 : St := (.ret (.and (.cmp .Eq (.mcall "Table" "at" 30 (.v 5) (.cons (.tup (.cons (.v 10) .nil)) .nil)) (.call 58 (.cons (.v 1) (.cons (.v 10) .nil)))) (.oeq false "Table" 35 (.call 52 (.cons (.c (.int 1)) (.cons (.bi .tuple (.cons (.v 4) .nil)) .nil))) (.v 5))))
def r0 : St := (.asg (.n 11) (.call 58 (.cons (.v 1) (.cons (.op .Add (.v 3) (.c (.int 1))) .nil))))
def r1 : St := (.asg (.n 12) (.call 59 (.cons (.v 11) (.cons (.op .Add (.v 3) (.c (.int 1))) .nil))))
def r2 : St := (.ifs (.or (.cmp .NotEq (.call 51 (.cons (.c (.int 1)) (.cons (.v 4) .nil))) (.tup (.cons (.op .Add (.v 3) (.c (.int 1))) .nil))) (.or (.cmp .NotEq (.v 12) (.sl (.v 1) (.c .non) (.bi .len (.cons (.v 12) .nil)))) (.cmp .NotEq (.bi .sum (.cons (.sl (.v 1) (.bi .len (.cons (.v 12) .nil)) (.c .non)) .nil)) (.c (.int 0))))) (.cons (.ret (.c (.bl false))) .nil) .nil)
def r3 : St := (.ex (.meth .append (.v 4) (.cons (.tup (.cons (.tup (.cons (.op .Add (.v 3) (.c (.int 1))) .nil)) (.cons (.v 11) .nil))) .nil)))
def rB : Ss := (.cons r0 (.cons r1 (.cons r2 (.cons r3 .nil))))
theorem q2_eq : q2 = .ifs (.cmp .Gt (.v 3) (.c (.int 1))) rB .nil := rfl
theorem told_body : b__law_told_right = (.cons q0 (.cons q1 (.cons q2 (.cons q3 (.cons q4 (.cons q5 (.cons q6 (.cons q7 (.cons q8 (.cons q9 (.cons q10 (.cons q11 .nil)))))))))))) := rfl

/-- what the law knows at a time -/
def en (sh : List Nat) (n0 : Nat) (a3 a4 a5 a6 a7 a8 a9 a10 a11 a12 : Option D) : Iv.Env := [some (.ref 0), some (.lst (nl sh)), some (.int (n0 : Int)), a3, a4, a5, a6, a7, a8, a9, a10, a11, a12, none, none, none]
theorem cutA (l : List Nat) (k : Nat) (hk : k ≤ l.length) : slD (.lst (nl l)) none (some (k : Int)) = some (.lst (nl (l.take k))) := by
  show some (D.lst (cutD _ _ _)) = _
  unfold cutD
  rw [HT.sIx_none, HT.sIx_nat, nl_len, Nat.min_eq_left hk, List.drop_zero, Nat.sub_zero]
  congr 2
  rw [nl, nl, ni, ni, List.map_take, List.map_take]
theorem cutB (l : List Nat) (k : Nat) (hk : k ≤ l.length) : slD (.lst (nl l)) (some (k : Int)) none = some (.lst (nl (l.drop k))) := by
  show some (D.lst (cutD _ _ _)) = _
  unfold cutD
  rw [HT.sIx_none, HT.sIx_nat, nl_len, Nat.min_eq_left hk]
  congr 2
  rw [List.take_of_length_le (by rw [List.length_drop, nl_len]; omega), nl, nl, ni, ni, List.map_drop, List.map_drop]
theorem ne_nl (l : List Nat) : cmpD .NotEq (.lst (nl l)) (.lst (nl l)) = some false := by
  have e : D.eqv (.lst (nl l)) (.lst (nl l)) = true := by
    refine PySem.SeqAt.eqv_refl _ ?_
    show PyData.canLay0 (.list (D.pys ((ni l).map D.int))) = true
    rw [pys_ints, PyData.canLay0, lay_ints]
  show (if _ then _ else _) = _
  rw [if_pos (by rw [nl, ok_ints]; rfl), e]
  rfl
theorem take_of {a b l : List Nat} (h : a ++ b = l) : l.take a.length = a := by rw [← h, List.take_left]
theorem drop_of {a b l : List Nat} (h : a ++ b = l) : l.drop a.length = b := by rw [← h, List.drop_left]
theorem strip_take (l : List Nat) : l.take (strip l).length = strip l := take_of (strip_split l)
theorem strip_drop (l : List Nat) : (l.drop (strip l).length).sum = 0 := by
  have e : l.drop (strip l).length = List.replicate (l.length - (strip l).length) 0 := drop_of (strip_split l)
  rw [e]
  generalize l.length - (strip l).length = k
  induction k with
  | zero => rfl
  | succ k ih => rw [List.replicate_succ, List.sum_cons, ih]
theorem st0 {F : CF} (e : F 58 [.lst (nl sh), .int 2] S = some (.int (v : Int), S)) : ex F w q0 (en sh n0 none none none none none none none none none none) S = some (.nx (en sh n0 (some (.int (v : Int))) none none none none none none none none none), S) := by
  simp only [q0, en, ex, ev, evs, List.getElem?_cons_succ, List.getElem?_cons_zero, e, setT, List.set_cons_succ, List.set_cons_zero]
theorem st1 {F : CF} {X : Option (List D)} : ex F w q1 (en sh n0 (some (.int (v : Int))) none none none none none none none none none) [X] = some (.nx (en sh n0 (some (.int (v : Int))) (some (.ref 1)) none none none none none none none none), [X, some [an0 n0, an1 v]]) := by
  have one : small 1 = true := rfl
  have two : small 2 = true := rfl
  simp only [q1, en, ex, ev, evs, List.getElem?_cons_succ, List.getElem?_cons_zero, List.length_cons, List.length_nil, Nat.zero_add, Nat.reduceAdd, one, two, if_true, mkList, setT, List.set_cons_succ, List.set_cons_zero]
  rfl
theorem st2_small {F : CF} (h : v ≤ 1) (a4 : Option D) : ex F w q2 (en sh n0 (some (.int (v : Int))) a4 none none none none none none none none) S = some (.nx (en sh n0 (some (.int (v : Int))) a4 none none none none none none none none), S) := by
  have c : cmpD .Gt (.int (v : Int)) (.int 1) = some false := by
    have e : decide ((1 : Int) < (v : Int)) = false := decide_eq_false (by omega)
    show some (decide ((1 : Int) < (v : Int))) = _
    rw [e]
  rw [q2_eq]
  simp only [en, ex, exs, ev, List.getElem?_cons_succ, List.getElem?_cons_zero, see_int, c]
theorem r2_cond {F : CF} {k : Nat} (hk : k ≤ sh.length) (e51 : F 51 [.int 1, .ref 1] S = some (.tup [.int ((v + 1 : Nat) : Int)], S)) (hd : (strip sh).length = k) :
    ev F (.or (.cmp .NotEq (.call 51 (.cons (.c (.int 1)) (.cons (.v 4) .nil))) (.tup (.cons (.op .Add (.v 3) (.c (.int 1))) .nil))) (.or (.cmp .NotEq (.v 12) (.sl (.v 1) (.c .non) (.bi .len (.cons (.v 12) .nil)))) (.cmp .NotEq (.bi .sum (.cons (.sl (.v 1) (.bi .len (.cons (.v 12) .nil)) (.c .non)) .nil)) (.c (.int 0))))) (en sh n0 (some (.int (v : Int))) (some (.ref 1)) none none none none none none (some (.int (u : Int))) (some (.lst (nl (strip sh))))) S = some (.bl false, S) := by
  have one : small 1 = true := rfl
  have ad : opD .Add (.int (v : Int)) (.int 1) = some (.int ((v + 1 : Nat) : Int)) := rfl
  have c1 : cmpD .NotEq (.tup [.int ((v + 1 : Nat) : Int)]) (.tup [.int ((v + 1 : Nat) : Int)]) = some false := by
    have := ne_tup [((v + 1 : Nat) : Int)] [((v + 1 : Nat) : Int)]
    rw [decide_eq_true rfl] at this
    exact this
  have l1 : ∀ l, see S (.tup l) = some (.tup l) := fun _ => rfl
  have l2 : ∀ l, see S (.lst l) = some (.lst l) := fun _ => rfl
  have l3 : see S .non = some .non := rfl
  have p1 : part? .non = some none := rfl
  have p2 : part? (.int (k : Int)) = some (some (k : Int)) := rfl
  have g1 : ((isNonE (.c .non) || isIntD .non) && (isNonE (.bi .len (.cons (.v 12) .nil)) || isIntD (.int (k : Int)))) = true := rfl
  have g2 : ((isNonE (.bi .len (.cons (.v 12) .nil)) || isIntD (.int (k : Int))) && (isNonE (.c .non) || isIntD .non)) = true := rfl
  have bl : biD .len [.lst (nl (strip sh))] = some (.int (k : Int)) := by rw [len_lst, nl_len, hd]
  have ca := cutA sh k hk
  have cb := cutB sh k hk
  have tk : sh.take k = strip sh := by rw [← hd]; exact strip_take sh
  have dr0 : biD .sum [.lst (nl (sh.drop k))] = some (.int 0) := by
    rw [sum_nl, ← hd, strip_drop]
    rfl
  have c3 : cmpD .NotEq (.int 0) (.int 0) = some false := rfl
  have a1 : ev F (.cmp .NotEq (.call 51 (.cons (.c (.int 1)) (.cons (.v 4) .nil))) (.tup (.cons (.op .Add (.v 3) (.c (.int 1))) .nil))) (en sh n0 (some (.int (v : Int))) (some (.ref 1)) none none none none none none (some (.int (u : Int))) (some (.lst (nl (strip sh))))) S = some (.bl false, S) := by
    simp only [en, ev, evs, List.getElem?_cons_succ, List.getElem?_cons_zero, e51, see_int, ad, List.length_cons, List.length_nil, Nat.zero_add, one, if_true, l1, c1]
  have a2 : ev F (.cmp .NotEq (.v 12) (.sl (.v 1) (.c .non) (.bi .len (.cons (.v 12) .nil)))) (en sh n0 (some (.int (v : Int))) (some (.ref 1)) none none none none none none (some (.int (u : Int))) (some (.lst (nl (strip sh))))) S = some (.bl false, S) := by
    simp only [en, ev, evs, List.getElem?_cons_succ, List.getElem?_cons_zero, seeAll, l2, l3, bl, see_int, p1, p2, g1, if_true, ca, tk, ne_nl]
  have a3 : ev F (.cmp .NotEq (.bi .sum (.cons (.sl (.v 1) (.bi .len (.cons (.v 12) .nil)) (.c .non)) .nil)) (.c (.int 0))) (en sh n0 (some (.int (v : Int))) (some (.ref 1)) none none none none none none (some (.int (u : Int))) (some (.lst (nl (strip sh))))) S = some (.bl false, S) := by
    simp only [en, ev, evs, List.getElem?_cons_succ, List.getElem?_cons_zero, seeAll, l2, l3, bl, see_int, p1, p2, g2, if_true, cb, dr0, c3]
  rw [ev, a1]
  simp only []
  rw [ev, a2]
  simp only []
  exact a3
theorem st2_big {F : CF} {X : Option (List D)} (h2 : 2 ≤ v) (e58 : F 58 [.lst (nl sh), .int ((v + 1 : Nat) : Int)] [X, some [an0 n0, an1 v]] = some (.int (u : Int), [X, some [an0 n0, an1 v]])) (e59 : F 59 [.int (u : Int), .int ((v + 1 : Nat) : Int)] [X, some [an0 n0, an1 v]] = some (.lst (nl (strip sh)), [X, some [an0 n0, an1 v]]))
    (e51 : F 51 [.int 1, .ref 1] [X, some [an0 n0, an1 v]] = some (.tup [.int ((v + 1 : Nat) : Int)], [X, some [an0 n0, an1 v]])) :
    ex F w q2 (en sh n0 (some (.int (v : Int))) (some (.ref 1)) none none none none none none none none) [X, some [an0 n0, an1 v]] = some (.nx (en sh n0 (some (.int (v : Int))) (some (.ref 1)) none none none none none none (some (.int (u : Int))) (some (.lst (nl (strip sh))))), [X, some [an0 n0, an1 v, an2 v u]]) := by
  have c : cmpD .Gt (.int (v : Int)) (.int 1) = some true := by
    have e : decide ((1 : Int) < (v : Int)) = true := decide_eq_true (by omega)
    show some (decide ((1 : Int) < (v : Int))) = _
    rw [e]
  have one : small 1 = true := rfl
  have two : small 2 = true := rfl
  have three : small 3 = true := rfl
  have ad : opD .Add (.int (v : Int)) (.int 1) = some (.int ((v + 1 : Nat) : Int)) := rfl
  have s0 : ev F (.cmp .Gt (.v 3) (.c (.int 1))) (en sh n0 (some (.int (v : Int))) (some (.ref 1)) none none none none none none none none) [X, some [an0 n0, an1 v]] = some (.bl true, [X, some [an0 n0, an1 v]]) := by
    simp only [en, ev, List.getElem?_cons_succ, List.getElem?_cons_zero, see_int, c]
  have s1 : ex F w r0 (en sh n0 (some (.int (v : Int))) (some (.ref 1)) none none none none none none none none) [X, some [an0 n0, an1 v]] = some (.nx (en sh n0 (some (.int (v : Int))) (some (.ref 1)) none none none none none none (some (.int (u : Int))) none), [X, some [an0 n0, an1 v]]) := by
    simp only [r0, en, ex, ev, evs, List.getElem?_cons_succ, List.getElem?_cons_zero, see_int, ad, e58, setT, List.set_cons_succ, List.set_cons_zero]
  have s2 : ex F w r1 (en sh n0 (some (.int (v : Int))) (some (.ref 1)) none none none none none none (some (.int (u : Int))) none) [X, some [an0 n0, an1 v]] = some (.nx (en sh n0 (some (.int (v : Int))) (some (.ref 1)) none none none none none none (some (.int (u : Int))) (some (.lst (nl (strip sh))))), [X, some [an0 n0, an1 v]]) := by
    simp only [r1, en, ex, ev, evs, List.getElem?_cons_succ, List.getElem?_cons_zero, see_int, ad, e59, setT, List.set_cons_succ, List.set_cons_zero]
  have s3 := r2_cond (F := F) (S := [X, some [an0 n0, an1 v]]) (sh := sh) (n0 := n0) (v := v) (u := u) (strip_len sh) e51 rfl
  have no : isObj [an0 n0, an1 v] = false := rfl
  have s4 : ex F w r3 (en sh n0 (some (.int (v : Int))) (some (.ref 1)) none none none none none none (some (.int (u : Int))) (some (.lst (nl (strip sh))))) [X, some [an0 n0, an1 v]] = some (.nx (en sh n0 (some (.int (v : Int))) (some (.ref 1)) none none none none none none (some (.int (u : Int))) (some (.lst (nl (strip sh))))), [X, some [an0 n0, an1 v, an2 v u]]) := by
    simp only [r3, en, ex, ev, evs, List.getElem?_cons_succ, List.getElem?_cons_zero, see, see_int, ad, no, Bool.false_eq_true, if_false, Option.isSome, if_true, List.length_cons, List.length_nil, Nat.zero_add, Nat.reduceAdd, one, two, three, meD, Bool.not_false, Bool.true_and, List.set_cons_succ, List.set_cons_zero, List.cons_append, List.nil_append]
    rfl
  rw [q2_eq, ex, s0]
  simp only []
  rw [rB, exs, s1]
  simp only []
  rw [exs, s2]
  simp only []
  rw [exs, r2, ex, s3]
  simp only [exs]
  rw [s4]
end Lk52

set_option Elab.async false
set_option linter.all false
set_option maxRecDepth 100000
set_option maxHeartbeats 4000000
namespace Lk52
open PySem Iv
variable {w n : Nat} {S R : Sto} {cs : List Int} {t h : Int} {sh : List Nat} {n0 v u : Nat} {a3 a4 a5 a6 a7 a8 a9 a10 a11 a12 : Option D}
theorem st3 {F : CF} {S2 : Sto} {i : Nat} (e : F 52 [.int 1, .ref 1] S = some (.ref i, S2)) : ex F w q3 (en sh n0 a3 (some (.ref 1)) none none none none none none a11 a12) S = some (.nx (en sh n0 a3 (some (.ref 1)) (some (.ref i)) none none none none none a11 a12), S2) := by
  have z : prm [1, 0] [D.ref 1, .int 1] = [.int 1, .ref 1] := rfl
  simp only [q3, en, ex, ev, evs, List.getElem?_cons_succ, List.getElem?_cons_zero, List.nil_append, z, e, setT, List.set_cons_succ, List.set_cons_zero]
theorem st4 {F : CF} (hl : sh.length ≤ 900) : ex F w q4 (en sh n0 a3 a4 a5 none none none none none a11 a12) S = some (.nx (en sh n0 a3 a4 a5 (some (.tup (tms (terms 0 sh)))) none none none none a11 a12), S) := by
  have one : small 1 = true := rfl
  have two : small 2 = true := rfl
  have e := ev_enum (F := F) (S := S) (i := 13) (j := 14) (e := .v 1) (cond := .cmp .Gt (.v 14) (.c (.int 0))) (elt := .tup (.cons (.tup (.cons (.v 13) .nil)) (.cons (.v 14) .nil))) (ρ := en sh n0 a3 a4 a5 none none none none none a11 a12) (l := sh) rfl hl (fun p s hp hs => by
    refine ⟨_, rfl, ?_, fun _ => ?_⟩
    · show ev F _ [some (.ref 0), some (.lst (nl sh)), some (.int (n0 : Int)), a3, a4, a5, none, none, none, none, none, a11, a12, some (.int (p : Nat)), some (.int (s : Nat)), none] S = _
      simp only [ev, List.getElem?_cons_succ, List.getElem?_cons_zero, see_int, gt0]
    · show ev F _ [some (.ref 0), some (.lst (nl sh)), some (.int (n0 : Int)), a3, a4, a5, none, none, none, none, none, a11, a12, some (.int (p : Nat)), some (.int (s : Nat)), none] S = _
      simp only [ev, evs, List.getElem?_cons_succ, List.getElem?_cons_zero, List.length_cons, List.length_nil, Nat.zero_add, Nat.reduceAdd, one, two, if_true]
      rfl)
  rw [q4, ex, ev, evs, e]
  rfl
theorem st5 {F : CF} : ex F w q5 (en sh n0 a3 a4 a5 (some (.tup (tms (terms 0 sh)))) none none none none a11 a12) S = some (.nx (en sh n0 a3 a4 a5 (some (.tup (tms (terms 0 sh)))) (some (rowsD (pz n0) (terms 0 sh))) none none none a11 a12), S) := by
  have zer : small 0 = true := rfl
  have one : small 1 = true := rfl
  have two : small 2 = true := rfl
  have e : ev F (.ite (.cmp .Gt (.v 2) (.c (.int 0))) (.tup (.cons (.tup (.cons (.tup (.cons (.c (.int 0)) .nil)) (.cons (.v 2) .nil))) .nil)) (.tup .nil)) (en sh n0 a3 a4 a5 (some (.tup (tms (terms 0 sh)))) none none none none a11 a12) S = some (.tup (tms (pz n0)), S) := by
    have c : ev F (.cmp .Gt (.v 2) (.c (.int 0))) (en sh n0 a3 a4 a5 (some (.tup (tms (terms 0 sh)))) none none none none a11 a12) S = some (.bl (decide (0 < n0)), S) := by
      simp only [en, ev, List.getElem?_cons_succ, List.getElem?_cons_zero, see_int, gt0]
    rw [ev, c]
    by_cases z : n0 = 0
    · rw [decide_eq_false (by omega)]
      simp only [ev, evs, List.length_nil, zer, if_true]
      unfold pz
      rw [if_pos z]
      rfl
    · rw [decide_eq_true (by omega)]
      simp only [en, ev, evs, List.getElem?_cons_succ, List.getElem?_cons_zero, List.length_cons, List.length_nil, Nat.zero_add, Nat.reduceAdd, one, two, if_true]
      unfold pz
      rw [if_neg z]
      rfl
  rw [q5, ex, ev, evs, e]
  simp only [en, ev, evs, List.getElem?_cons_succ, List.getElem?_cons_zero, List.length_cons, List.length_nil, Nat.zero_add, Nat.reduceAdd, two, if_true, setT, List.set_cons_succ, List.set_cons_zero]
  rfl
theorem isCl_tab {p q : List (Nat × Nat)} {i : Nat} (h : S[i]? = some (some (tabO p q))) : isCl S i "Table" = true := by
  unfold isCl
  rw [h]
  rfl
/-- step 6: the table is as it should be -/
theorem st6 {F : CF} {p q : List (Nat × Nat)} (h5 : S[3]? = some (some (tabO p q))) (hS : S.length = 4) (e91 : F 91 [.ref S.length, .int 1, rw2 true p q] (S ++ [some [.cl "Table" []]]) = some (.non, S ++ [some (tabO p q)]))
    (e97 : F 97 [.ref 3, .ref 4] (S ++ [some (tabO p q)]) = some (.bl true, S ++ [some (tabO p q)])) (e51 : F 51 [.int 1, .ref 1] (S ++ [some (tabO p q)]) = some (.non, S ++ [some (tabO p q)])) :
    ex F w q6 (en sh n0 a3 (some (.ref 1)) (some (.ref 3)) a6 (some (rowsD p q)) none none none a11 a12) S = some (.nx (en sh n0 a3 (some (.ref 1)) (some (.ref 3)) a6 (some (rowsD p q)) none none none a11 a12), S ++ [some (tabO p q)]) := by
  have v5 : ∀ S, ev F (.v 5) (en sh n0 a3 (some (.ref 1)) (some (.ref 3)) a6 (some (rowsD p q)) none none none a11 a12) S = some (.ref 3, S) := fun S => rfl
  have v7 : ∀ S, ev F (.v 7) (en sh n0 a3 (some (.ref 1)) (some (.ref 3)) a6 (some (rowsD p q)) none none none a11 a12) S = some (rowsD p q, S) := fun S => rfl
  have b1 : ev F (.not (.isC (.v 5) "Table" ["Table"] [])) (en sh n0 a3 (some (.ref 1)) (some (.ref 3)) a6 (some (rowsD p q)) none none none a11 a12) S = some (.bl false, S) := by
    have c : isCD S (.ref 3) ["Table"] [] = some true := by
      simp only [isCD, h5, tabO]
      rfl
    rw [ev, ev, v5]
    simp only [c, Bool.not_true]
  have c1 : cmpD .NotEq (.int 1) (.int 1) = some false := rfl
  have b2 : ev F (.cmp .NotEq (.fld "Table" (.v 5) "many") (.c (.int 1))) (en sh n0 a3 (some (.ref 1)) (some (.ref 3)) a6 (some (rowsD p q)) none none none a11 a12) S = some (.bl false, S) := by
    rw [ev, fld_many (v5 S) h5]
    simp only [ev, see_int, c1]
  have b3 : ev F (.cmp .NotEq (.fld "Table" (.v 5) "rows") (.v 7)) (en sh n0 a3 (some (.ref 1)) (some (.ref 3)) a6 (some (rowsD p q)) none none none a11 a12) S = some (.bl false, S) := by
    rw [ev, fld_rows (v5 S) h5]
    simp only []
    rw [v7]
    simp only [show see S (rowsD p q) = some (rowsD p q) from rfl, ne_rows]
  have mk : ev F (.mko "Table" 91 (.cons (.c (.int 1)) (.cons (.v 7) .nil))) (en sh n0 a3 (some (.ref 1)) (some (.ref 3)) a6 (some (rowsD p q)) none none none a11 a12) S = some (.ref 4, S ++ [some (tabO p q)]) := by
    have a : evs F (.cons (.c (.int 1)) (.cons (.v 7) .nil)) (en sh n0 a3 (some (.ref 1)) (some (.ref 3)) a6 (some (rowsD p q)) none none none a11 a12) S = some ([.int 1, rowsD p q], S) := rfl
    have e91' : F 91 [.ref S.length, .int 1, rowsD p q] (S ++ [some [.cl "Table" []]]) = some (.non, S ++ [some (tabO p q)]) := e91
    rw [hS] at e91'
    rw [ev, a]
    simp only [hS, e91']
  have h5' : (S ++ [some (tabO p q)])[3]? = some (some (tabO p q)) := by rw [List.getElem?_append_left (by omega)]; exact h5
  have h4' : (S ++ [some (tabO p q)])[4]? = some (some (tabO p q)) := by
    rw [← hS]
    exact get_end
  have k1 : isCl (S ++ [some (tabO p q)]) 3 "Table" = true := isCl_tab h5'
  have k2 : isCl (S ++ [some (tabO p q)]) 4 "Table" = true := isCl_tab h4'
  have b4 : ev F (.oeq true "Table" 97 (.v 5) (.mko "Table" 91 (.cons (.c (.int 1)) (.cons (.v 7) .nil)))) (en sh n0 a3 (some (.ref 1)) (some (.ref 3)) a6 (some (rowsD p q)) none none none a11 a12) S = some (.bl false, S ++ [some (tabO p q)]) := by
    rw [ev, v5]
    simp only []
    rw [mk]
    simp only [k1, k2, Bool.and_self, if_true, e97]
    rfl
  have b5 : ev F (.cmp .IsNot (.call 51 (.cons (.c (.int 1)) (.cons (.v 4) .nil))) (.c .non)) (en sh n0 a3 (some (.ref 1)) (some (.ref 3)) a6 (some (rowsD p q)) none none none a11 a12) (S ++ [some (tabO p q)]) = some (.bl false, S ++ [some (tabO p q)]) := by
    have c2 : cmpD .IsNot .non .non = some false := rfl
    have l : see (S ++ [some (tabO p q)]) .non = some .non := rfl
    simp only [en, ev, evs, List.getElem?_cons_succ, List.getElem?_cons_zero, e51, l, c2]
  rw [q6, ex, ev, b1]
  simp only []
  rw [ev, b2]
  simp only []
  rw [ev, b3]
  simp only []
  rw [ev, b4]
  simp only []
  rw [b5]
  simp only [exs]
theorem none_run {f : D → Sto → Option (Option D × Sto)} : ∀ (xs acc : List D), (∀ d ∈ xs, f d S = some (none, S)) → compRun f xs acc S = some (acc, S)
  | [], acc, _ => rfl
  | d :: xs, acc, h => by
    rw [compRun, h d List.mem_cons_self]
    exact none_run xs acc fun e he => h e (List.mem_cons_of_mem _ he)
theorem st7 {F : CF} {p q : List (Nat × Nat)} (h5 : S[3]? = some (some (tabO p q))) :
    ex F w q7 (en sh n0 a3 a4 (some (.ref 3)) a6 a7 none none none a11 a12) S = some (.nx (en sh n0 a3 a4 (some (.ref 3)) a6 a7 none none none a11 a12), S) := by
  have v5 : ev F (.v 5) (en sh n0 a3 a4 (some (.ref 3)) a6 a7 none none none a11 a12) S = some (.ref 3, S) := rfl
  have it : ev F (.ix (.fld "Table" (.v 5) "rows") (.c (.int 1))) (en sh n0 a3 a4 (some (.ref 3)) a6 a7 none none none a11 a12) S = some (.tup (tms q), S) := by
    have ix : ixD (rowsD p q) (.int 1) = some (.tup (tms q)) := rfl
    rw [ev, fld_rows v5 h5]
    simp only [ev, show see S (rowsD p q) = some (rowsD p q) from rfl, see_int, ix]
  have zer : small 0 = true := rfl
  have cp : ev F (.compI false (.n 15) (.ix (.fld "Table" (.v 5) "rows") (.c (.int 1))) (.or (.isi (.ix (.v 15) (.c (.int 1))) [.bool]) (.not (.isi (.ix (.v 15) (.c (.int 0))) [.tuple]))) (.v 15)) (en sh n0 a3 a4 (some (.ref 3)) a6 a7 none none none a11 a12) S = some (.lst [], S) := by
    rw [ev, it]
    simp only [items]
    rw [none_run (tms q) [] (fun d hd => by
      obtain ⟨t, ht, rfl⟩ := List.mem_map.mp hd
      have i0 : ixD (tmD t) (.int 0) = some (.tup [.int (t.1 : Int)]) := rfl
      have i1 : ixD (tmD t) (.int 1) = some (.int (t.2 : Int)) := rfl
      have l1 : see S (tmD t) = some (tmD t) := rfl
      have y1 : [Ty.bool].any (isTy (.int (t.2 : Int))) = false := rfl
      have y2 : [Ty.tuple].any (isTy (.tup [.int (t.1 : Int)])) = true := rfl
      have l3 : see S (.tup [.int (t.1 : Int)]) = some (.tup [.int (t.1 : Int)]) := rfl
      have st : setT (.n 15) (tmD t) (wipeT (.n 15) (en sh n0 a3 a4 (some (.ref 3)) a6 a7 none none none a11 a12)) = some [some (.ref 0), some (.lst (nl sh)), some (.int (n0 : Int)), a3, a4, some (.ref 3), a6, a7, none, none, none, a11, a12, none, none, some (tmD t)] := rfl
      have cd : ev F (.or (.isi (.ix (.v 15) (.c (.int 1))) [.bool]) (.not (.isi (.ix (.v 15) (.c (.int 0))) [.tuple]))) [some (.ref 0), some (.lst (nl sh)), some (.int (n0 : Int)), a3, a4, some (.ref 3), a6, a7, none, none, none, a11, a12, none, none, some (tmD t)] S = some (.bl false, S) := by
        simp only [ev, List.getElem?_cons_succ, List.getElem?_cons_zero, l1, see_int, i0, i1, l3, y1, y2, Bool.not_true]
      simp only [st, cd])]
    rfl
  have c0 : cmpD .NotEq (.lst []) (.lst []) = some false := rfl
  have s : ev F (.cmp .NotEq (.compI false (.n 15) (.ix (.fld "Table" (.v 5) "rows") (.c (.int 1))) (.or (.isi (.ix (.v 15) (.c (.int 1))) [.bool]) (.not (.isi (.ix (.v 15) (.c (.int 0))) [.tuple]))) (.v 15)) (.lst .nil)) (en sh n0 a3 a4 (some (.ref 3)) a6 a7 none none none a11 a12) S = some (.bl false, S) := by
    rw [ev, cp]
    simp only [ev, evs, List.length_nil, zer, if_true, show see S (.lst []) = some (.lst []) from rfl, c0]
  rw [q7, ex, s]
  simp only [exs]
theorem st8 {F : CF} {A : List D} (hA : S[1]? = some (some A)) (no : isObj A = false) : ex F w q8 (en sh n0 a3 (some (.ref 1)) a5 a6 a7 none none none a11 a12) S = some (.nx (en sh n0 a3 (some (.lst A)) a5 a6 a7 none none none a11 a12), S.set 1 none) := by
  simp only [q8, en, ex, List.getElem?_cons_succ, List.getElem?_cons_zero, hA, no, Bool.false_eq_true, if_false, List.set_cons_succ, List.set_cons_zero]
def atB : Ss := (.cons (.ifs (.cmp .NotEq (.mcall "Table" "at" 30 (.v 5) (.cons (.bi .list (.cons (.v 8) .nil)) .nil)) (.v 9)) (.cons (.ret (.c (.bl false))) .nil) .nil) .nil)
theorem ev_at {F : CF} {p q : List (Nat × Nat)} {e : E} {es : Es} {ρ : Iv.Env} {xs : List D} {i : Nat} (h5 : S[i]? = some (some (tabO p q))) (h : ev F e ρ S = some (.ref i, S)) (ha : evs F es ρ S = some (xs, S)) : ev F (.mcall "Table" "at" 30 e es) ρ S = F 30 (.ref i :: xs) S := by
  have g : (decide True && !(["many", "rows"] : List Str).contains "at") = true := by decide
  rw [ev, h]
  simp only [h5, tabO]
  rw [if_pos g, ha]
theorem at_turn {F : CF} {p q : List (Nat × Nat)} {b : Bool} {x y : Nat} (h5 : S[3]? = some (some (tabO p q))) (e : F 30 [.ref 3, row false [(x : Int)]] S = some (.int (y : Int), S)) :
    exs F w atB [some (.ref 0), some (.lst (nl sh)), some (.int (n0 : Int)), a3, a4, some (.ref 3), a6, a7, some (row b [(x : Int)]), some (.int (y : Int)), a10, a11, a12, none, none, none] S = some (.nx [some (.ref 0), some (.lst (nl sh)), some (.int (n0 : Int)), a3, a4, some (.ref 3), a6, a7, some (row b [(x : Int)]), some (.int (y : Int)), a10, a11, a12, none, none, none], S) := by
  have bl : biD .list [row b [(x : Int)]] = some (row false [(x : Int)]) := by cases b <;> rfl
  have m := ev_at (F := F) (p := p) (q := q) (e := .v 5) (es := .cons (.bi .list (.cons (.v 8) .nil)) .nil) (ρ := [some (.ref 0), some (.lst (nl sh)), some (.int (n0 : Int)), a3, a4, some (.ref 3), a6, a7, some (row b [(x : Int)]), some (.int (y : Int)), a10, a11, a12, none, none, none]) (xs := [row false [(x : Int)]]) h5 rfl (by
    simp only [evs, ev, List.getElem?_cons_succ, List.getElem?_cons_zero, seeAll, see_row, bl])
  rw [e] at m
  have c1 : cmpD .NotEq (.int (y : Int)) (.int (y : Int)) = some false := by
    show some (!decide ((y : Int) = y)) = _
    rw [decide_eq_true rfl]; rfl
  have s : ev F (.cmp .NotEq (.mcall "Table" "at" 30 (.v 5) (.cons (.bi .list (.cons (.v 8) .nil)) .nil)) (.v 9)) [some (.ref 0), some (.lst (nl sh)), some (.int (n0 : Int)), a3, a4, some (.ref 3), a6, a7, some (row b [(x : Int)]), some (.int (y : Int)), a10, a11, a12, none, none, none] S = some (.bl false, S) := by
    rw [ev, m]
    simp only [ev, List.getElem?_cons_succ, List.getElem?_cons_zero, see_int, c1]
  rw [atB, exs, ex, s]
  simp only [exs]
end Lk52

set_option Elab.async false
set_option linter.all false
set_option maxRecDepth 100000
set_option maxHeartbeats 4000000
namespace Lk52
open PySem Iv
variable {w n : Nat} {S R : Sto} {cs : List Int} {t h : Int} {sh : List Nat} {n0 v u : Nat} {a3 a4 a5 a6 a7 a8 a9 a10 a11 a12 : Option D}
theorem forRun_nx {t : Tg} {body : Iv.Env → Sto → Option (Out × Sto)} {d : D} {ds : List D} {ρ ρ1 ρ2 : Iv.Env} {S S1 : Sto} (h1 : setT t d ρ = some ρ1) (h2 : body ρ1 S = some (.nx ρ2, S1)) : forRun t body (d :: ds) ρ S = forRun t body ds ρ2 S1 := by
  simp only [forRun, h1, h2]
theorem t97 : T[97]? = none := rfl
theorem len_T2 : 97 - T.length = 35 := rfl
theorem ne_at {ds : List D} : run T w (n + 1) 97 ds S = run T w n 35 ds S := by
  rw [Iv.run]
  simp only [t97, len_T2]
theorem pworth_terms (x : Nat) (l : List Nat) : pworth x (terms 0 l) = hor x l := by
  unfold pworth
  rw [terms_sum, Nat.pow_zero, Nat.mul_one]
theorem pworth_pz (n0 : Nat) : pworth 0 (pz n0) = n0 := by
  unfold pz pworth
  split
  · rename_i z; rw [z]; rfl
  · simp
/-- a bound on what is drawn for no sign -/
def Bn (x : Nat) : Prop := x ≤ 10 ^ 40
theorem at0 (hn : Bn n0) : AtOk 0 (pz n0) := by
  refine ⟨Nat.zero_le _, fun t ht => ?_, fun t ht => ?_⟩
  · unfold pz at ht
    split at ht
    · cases ht
    · cases List.mem_singleton.mp ht; exact Nat.zero_le _
  · unfold pz at ht
    split at ht
    · cases ht
    · cases List.mem_singleton.mp ht; exact hn
theorem atx {x : Nat} (hs : Sh sh v) (hx : x ≤ 2 ^ 60) : AtOk x (terms 0 sh) := by
  refine ⟨hx, fun t ht => ?_, fun t ht => ?_⟩
  · obtain ⟨_, q1, _, _⟩ := terms_mem sh 0 t ht
    rw [hs.len] at q1
    clear hx
    omega
  · obtain ⟨_, _, _, q2⟩ := terms_mem sh 0 t ht
    exact Nat.le_trans (Nat.lt_succ_iff.mp (hs.lt t.2 q2)) (Nat.le_trans hs.big (by decide))
theorem ask0 {b : Bool} (h3 : S[3]? = some (some (tabO (pz n0) (terms 0 sh)))) (hn : Bn n0) : run T w (n + 5) 30 [.ref 3, row b [((0 : Nat) : Int)]] S = some (.int (n0 : Nat), S) := by
  have e := at_ok (w := w) (n := n) (S := S) (b := b) (x := 0) h3 (at0 hn)
  have z : pworth 0 (if 0 < 0 then terms 0 sh else pz n0) = n0 := pworth_pz n0
  rw [z] at e
  exact e
theorem askx {b : Bool} {x : Nat} (h3 : S[3]? = some (some (tabO (pz n0) (terms 0 sh)))) (hs : Sh sh v) (h0 : 0 < x) (hx : x ≤ 2 ^ 60) : run T w (n + 5) 30 [.ref 3, row b [(x : Int)]] S = some (.int (hor x sh : Nat), S) := by
  have e := at_ok (w := w) (n := n) (S := S) (b := b) (x := x) (p := pz n0) (q := terms 0 sh) h3 (by rw [if_pos h0]; exact atx hs hx)
  rw [if_pos h0, pworth_terms] at e
  exact e
def env0 (sh : List Nat) (n0 : Nat) (a3 : Option D) (A : List D) (a8 a9 a10 a11 a12 : Option D) : Iv.Env := en sh n0 a3 (some (.lst A)) (some (.ref 3)) (some (.tup (tms (terms 0 sh)))) (some (rowsD (pz n0) (terms 0 sh))) a8 a9 a10 a11 a12
theorem for2 (h3 : S[3]? = some (some (tabO (pz n0) (terms 0 sh)))) (hn : Bn n0) (hs : Sh sh v) :
    ∃ b8 b9, forRun (.t [8, 9]) (fun ρ S => exs (run T w (n + 10)) w atB ρ S) [an0 n0, an1 v] (env0 sh n0 a3 [an0 n0, an1 v] none none none a11 a12) S = some (.nx (env0 sh n0 a3 [an0 n0, an1 v] b8 b9 none a11 a12), S) := by
  have e0 := at_turn (w := w) (F := run T w (n + 10)) (sh := sh) (n0 := n0) (a3 := a3) (a4 := some (.lst [an0 n0, an1 v])) (a6 := some (.tup (tms (terms 0 sh)))) (a7 := some (rowsD (pz n0) (terms 0 sh))) (a10 := none) (a11 := a11) (a12 := a12) (b := true) (x := 0) (y := n0) h3 (ask0 (n := n + 5) h3 hn)
  have q2 := askx (w := w) (n := n + 5) (b := false) (x := 2) h3 hs (by decide) (by decide)
  rw [hs.val] at q2
  have e1 := at_turn (w := w) (F := run T w (n + 10)) (sh := sh) (n0 := n0) (a3 := a3) (a4 := some (.lst [an0 n0, an1 v])) (a6 := some (.tup (tms (terms 0 sh)))) (a7 := some (rowsD (pz n0) (terms 0 sh))) (a10 := none) (a11 := a11) (a12 := a12) (b := false) (x := 2) (y := v) h3 q2
  refine ⟨some (row false [((2 : Nat) : Int)]), some (.int (v : Int)), ?_⟩
  exact (forRun_nx rfl e0).trans ((forRun_nx rfl e1).trans rfl)
theorem v60 (hv : Bt v) : v + 1 ≤ 2 ^ 60 := Nat.le_trans (Nat.add_le_add_right hv 1) (by decide)
theorem for3 (h3 : S[3]? = some (some (tabO (pz n0) (terms 0 sh)))) (hn : Bn n0) (hs : Sh sh v) :
    ∃ b8 b9, forRun (.t [8, 9]) (fun ρ S => exs (run T w (n + 10)) w atB ρ S) [an0 n0, an1 v, an2 v (hor (v + 1) sh)] (env0 sh n0 a3 [an0 n0, an1 v, an2 v (hor (v + 1) sh)] none none none a11 a12) S = some (.nx (env0 sh n0 a3 [an0 n0, an1 v, an2 v (hor (v + 1) sh)] b8 b9 none a11 a12), S) := by
  have q3 := askx (w := w) (n := n + 5) (b := false) (x := v + 1) h3 hs (Nat.succ_pos v) (v60 hs.big)
  generalize hu : hor (v + 1) sh = u at q3 ⊢
  have e0 := at_turn (w := w) (F := run T w (n + 10)) (sh := sh) (n0 := n0) (a3 := a3) (a4 := some (.lst [an0 n0, an1 v, an2 v u])) (a6 := some (.tup (tms (terms 0 sh)))) (a7 := some (rowsD (pz n0) (terms 0 sh))) (a10 := none) (a11 := a11) (a12 := a12) (b := true) (x := 0) (y := n0) h3 (ask0 (n := n + 5) h3 hn)
  have q2 := askx (w := w) (n := n + 5) (b := false) (x := 2) h3 hs (by decide) (by decide)
  rw [hs.val] at q2
  have e1 := at_turn (w := w) (F := run T w (n + 10)) (sh := sh) (n0 := n0) (a3 := a3) (a4 := some (.lst [an0 n0, an1 v, an2 v u])) (a6 := some (.tup (tms (terms 0 sh)))) (a7 := some (rowsD (pz n0) (terms 0 sh))) (a10 := none) (a11 := a11) (a12 := a12) (b := false) (x := 2) (y := v) h3 q2
  have e2 := at_turn (w := w) (F := run T w (n + 10)) (sh := sh) (n0 := n0) (a3 := a3) (a4 := some (.lst [an0 n0, an1 v, an2 v u])) (a6 := some (.tup (tms (terms 0 sh)))) (a7 := some (rowsD (pz n0) (terms 0 sh))) (a10 := none) (a11 := a11) (a12 := a12) (b := true) (x := v + 1) (y := u) h3 q3
  refine ⟨some (row true [((v + 1 : Nat) : Int)]), some (.int (u : Int)), ?_⟩
  exact (forRun_nx rfl e0).trans ((forRun_nx rfl e1).trans ((forRun_nx rfl e2).trans rfl))
theorem far_wd {r : Nat} (h : r < 1000000000000000) : Wd (1 + r) := Nat.lt_of_le_of_lt (show 1 + r ≤ 1000000000000000 by omega) (by decide)
theorem far_60 {r : Nat} (h : r < 1000000000000000) : 1 + r ≤ 2 ^ 60 := Nat.le_trans (show 1 + r ≤ 1000000000000000 by omega) (by decide)
def tb (n0 : Nat) (sh : List Nat) : Option (List D) := some (tabO (pz n0) (terms 0 sh))
theorem st9 {A : List D} {b8 b9 : Option D} (hf : forRun (.t [8, 9]) (fun ρ S => exs (run T w (n + 10)) w atB ρ S) A (env0 sh n0 a3 A none none none a11 a12) S = some (.nx (env0 sh n0 a3 A b8 b9 none a11 a12), S)) : ex (run T w (n + 10)) w q9 (env0 sh n0 a3 A none none none a11 a12) S = some (.nx (env0 sh n0 a3 A b8 b9 none a11 a12), S) := by
  have e : q9 = .for (.t [8, 9]) (.v 4) atB := rfl
  have ev4 : ev (run T w (n + 10)) (.v 4) (env0 sh n0 a3 A none none none a11 a12) S = some (.lst A, S) := rfl
  rw [e, ex, ev4]
  exact hf
theorem st10 {A : List D} {b8 b9 : Option D} (t0 : 0 ≤ t) (t1 : t + 2 ≤ 1000000) (h0 : 0 ≤ h) : ∃ (r : Nat) (t' h' : Int), r < 1000000000000000 ∧ t ≤ t' ∧ t' ≤ t + 2 ∧ 0 ≤ h' ∧ ex (run T w (n + 10)) w q10 (env0 sh n0 a3 A b8 b9 none a11 a12) (some (shelf cs t h) :: R) = some (.nx (env0 sh n0 a3 A b8 b9 (some (.int ((1 + r : Nat) : Int))) a11 a12), some (shelf cs t' h') :: R) := by
  have three : small 3 = true := rfl
  have pw : opD .Pow (.int 10) (.int 15) = some (.int ((1000000000000000 : Nat) : Int)) := by rw [op_pow (by decide) (by decide) (by decide)]; rfl
  obtain ⟨r, t', h', r1, q1, q2, q3, e⟩ := ev_dip (w := w) (n := n + 8) (cs := cs) (R := R) (ρ := env0 sh n0 a3 A b8 b9 none a11 a12) (L := .lst (.cons (.c (.int 9)) (.cons (.c (.int 1000)) (.cons (.op .Pow (.c (.int 10)) (.c (.int 15))) .nil)))) (xs := [9, 1000, 1000000000000000]) (M := 1000000000000000) rfl (fun S => by
    simp only [ev, evs, see_int, pw, List.length_cons, List.length_nil, Nat.zero_add, Nat.reduceAdd, three, if_true]
    rfl) (by simp) (by decide) (by decide) (show 1000000000000000 < 2 ^ 63 by decide) t0 t1 h0
  refine ⟨r, t', h', r1, q1, q2, q3, ?_⟩
  have c1 : ∀ S, ev (run T w (n + 10)) (.c (.int 1)) (env0 sh n0 a3 A b8 b9 none a11 a12) S = some (.int 1, S) := fun S => rfl
  have ad : opD .Add (.int 1) (.int (r : Int)) = some (.int ((1 + r : Nat) : Int)) := rfl
  rw [q10, ex, ev, c1]
  simp only []
  rw [e]
  simp only [see_int, ad]
  rfl
theorem st11 {A : List D} {b8 b9 : Option D} {x : Nat} (h3 : S[3]? = some (tb n0 sh)) (hS : S.length = 5) (hs : Sh sh v) (x0 : 0 < x) (x1 : Wd x) (x2 : x ≤ 2 ^ 60) (e52 : run T w (n + 10) 52 [.int 1, .tup A] S = some (.ref (S ++ [none]).length, S ++ [none] ++ [tb n0 sh])) :
    ex (run T w (n + 10)) w q11 (env0 sh n0 a3 A b8 b9 (some (.int (x : Int))) a11 a12) S = some (.rt (.bl true), S ++ [none] ++ [tb n0 sh]) := by
  have one : small 1 = true := rfl
  have e30 := askx (w := w) (n := n + 5) (S := S) (b := true) (x := x) h3 hs x0 x2
  have e58 := lworth (w := w) (n := n + 9) (S := S) (sh := sh) (b := x) x1 (by rw [hs.len]; decide)
  generalize hor x sh = y at e30 e58
  have m := ev_at (F := run T w (n + 10)) (p := pz n0) (q := terms 0 sh) (e := .v 5) (es := .cons (.tup (.cons (.v 10) .nil)) .nil) (ρ := env0 sh n0 a3 A b8 b9 (some (.int (x : Int))) a11 a12) (xs := [row true [(x : Int)]]) (i := 3) h3 rfl (by
    simp only [env0, en, evs, ev, List.getElem?_cons_succ, List.getElem?_cons_zero, List.length_cons, List.length_nil, Nat.zero_add, one, if_true]
    rfl)
  rw [e30] at m
  have c1 : cmpD .Eq (.int (y : Int)) (.int (y : Int)) = some true := by
    show some (decide ((y : Int) = y)) = _
    rw [decide_eq_true rfl]
  have a58 : ev (run T w (n + 10)) (.call 58 (.cons (.v 1) (.cons (.v 10) .nil))) (env0 sh n0 a3 A b8 b9 (some (.int (x : Int))) a11 a12) S = some (.int (y : Int), S) := by
    simp only [env0, en, ev, evs, List.getElem?_cons_succ, List.getElem?_cons_zero, e58]
  have b1 : ev (run T w (n + 10)) (.cmp .Eq (.mcall "Table" "at" 30 (.v 5) (.cons (.tup (.cons (.v 10) .nil)) .nil)) (.call 58 (.cons (.v 1) (.cons (.v 10) .nil)))) (env0 sh n0 a3 A b8 b9 (some (.int (x : Int))) a11 a12) S = some (.bl true, S) := by
    rw [ev, m]
    simp only []
    rw [a58]
    simp only [see_int, c1]
  have a52 : ev (run T w (n + 10)) (.call 52 (.cons (.c (.int 1)) (.cons (.bi .tuple (.cons (.v 4) .nil)) .nil))) (env0 sh n0 a3 A b8 b9 (some (.int (x : Int))) a11 a12) S = some (.ref 6, S ++ [none] ++ [tb n0 sh]) := by
    have bt : biD .tuple [.lst A] = some (.tup A) := rfl
    have l6 : (S ++ [none]).length = 6 := by rw [List.length_append, hS]; rfl
    rw [l6] at e52
    simp only [env0, en, ev, evs, List.getElem?_cons_succ, List.getElem?_cons_zero, seeAll, show see S (.lst A) = some (.lst A) from rfl, bt, e52]
  have g3 : (S ++ [none] ++ [tb n0 sh])[3]? = some (some (tabO (pz n0) (terms 0 sh))) := by
    rw [List.append_assoc, List.getElem?_append_left (by omega)]
    exact h3
  have g6 : (S ++ [none] ++ [tb n0 sh])[6]? = some (some (tabO (pz n0) (terms 0 sh))) := by
    have l6 : (S ++ [none]).length = 6 := by rw [List.length_append, hS]; rfl
    rw [← l6]
    exact get_end
  have e35 := eq_ok (w := w) (n := n + 9) (i := 6) (j := 3) g6 g3
  have v5 : ev (run T w (n + 10)) (.v 5) (env0 sh n0 a3 A b8 b9 (some (.int (x : Int))) a11 a12) (S ++ [none] ++ [tb n0 sh]) = some (.ref 3, S ++ [none] ++ [tb n0 sh]) := rfl
  have b2 : ev (run T w (n + 10)) (.oeq false "Table" 35 (.call 52 (.cons (.c (.int 1)) (.cons (.bi .tuple (.cons (.v 4) .nil)) .nil))) (.v 5)) (env0 sh n0 a3 A b8 b9 (some (.int (x : Int))) a11 a12) S = some (.bl true, S ++ [none] ++ [tb n0 sh]) := by
    rw [ev, a52]
    simp only []
    rw [v5]
    simp only [isCl_tab g6, isCl_tab g3, Bool.and_self, if_true, e35]
    rfl
  rw [q11, ex, ev, b1]
  simp only []
  rw [b2]
/-- all that follows the answers -/
theorem rest {A : List D} (hs : Sh sh v) (t0 : 0 ≤ t) (t1 : t + 2 ≤ 1000000) (h0 : 0 ≤ h) (no : isObj A = false)
    (e52 : run T w (n + 10) 52 [.int 1, .ref 1] [some (shelf cs t h), some A] = some (.ref 3, [some (shelf cs t h), some A, none, tb n0 sh]))
    (e51 : run T w (n + 10) 51 [.int 1, .ref 1] [some (shelf cs t h), some A, none, tb n0 sh, tb n0 sh] = some (.non, [some (shelf cs t h), some A, none, tb n0 sh, tb n0 sh]))
    (hf : ∃ b8 b9, forRun (.t [8, 9]) (fun ρ S => exs (run T w (n + 10)) w atB ρ S) A (env0 sh n0 a3 A none none none a11 a12) [some (shelf cs t h), none, none, tb n0 sh, tb n0 sh] = some (.nx (env0 sh n0 a3 A b8 b9 none a11 a12), [some (shelf cs t h), none, none, tb n0 sh, tb n0 sh]))
    (e52' : ∀ t' h', run T w (n + 10) 52 [.int 1, .tup A] [some (shelf cs t' h'), none, none, tb n0 sh, tb n0 sh] = some (.ref ([some (shelf cs t' h'), none, none, tb n0 sh, tb n0 sh] ++ [none]).length, [some (shelf cs t' h'), none, none, tb n0 sh, tb n0 sh] ++ [none] ++ [tb n0 sh])) :
    ∃ t' h' : Int, t ≤ t' ∧ t' ≤ t + 2 ∧ 0 ≤ h' ∧ exs (run T w (n + 10)) w (.cons q3 (.cons q4 (.cons q5 (.cons q6 (.cons q7 (.cons q8 (.cons q9 (.cons q10 (.cons q11 .nil))))))))) (en sh n0 a3 (some (.ref 1)) none none none none none none a11 a12) [some (shelf cs t h), some A] = some (.rt (.bl true), [some (shelf cs t' h')] ++ [none, none, tb n0 sh, tb n0 sh, none, tb n0 sh]) := by
  obtain ⟨b8, b9, hf⟩ := hf
  obtain ⟨r, t', h', r1, q1, q2, q3', e10⟩ := st10 (w := w) (n := n) (cs := cs) (R := [none, none, tb n0 sh, tb n0 sh]) (sh := sh) (n0 := n0) (a3 := a3) (A := A) (b8 := b8) (b9 := b9) (a11 := a11) (a12 := a12) t0 t1 h0
  refine ⟨t', h', q1, q2, q3', ?_⟩
  have s3 := st3 (w := w) (sh := sh) (n0 := n0) (a3 := a3) (a11 := a11) (a12 := a12) e52
  have s4 := st4 (w := w) (F := run T w (n + 10)) (S := [some (shelf cs t h), some A, none, tb n0 sh]) (n0 := n0) (a3 := a3) (a4 := some (.ref 1)) (a5 := some (.ref 3)) (a11 := a11) (a12 := a12) (sh := sh) (by rw [hs.len]; decide)
  have s5 := st5 (w := w) (F := run T w (n + 10)) (S := [some (shelf cs t h), some A, none, tb n0 sh]) (sh := sh) (n0 := n0) (a3 := a3) (a4 := some (.ref 1)) (a5 := some (.ref 3)) (a11 := a11) (a12 := a12)
  have e91 := make_ok (w := w) (n := n + 2) (S := [some (shelf cs t h), some A, none, tb n0 sh]) (b := true) (pz_ok n0) (ts_ok hs)
  have e97 : run T w (n + 10) 97 [.ref 3, .ref 4] ([some (shelf cs t h), some A, none, tb n0 sh] ++ [tb n0 sh]) = some (.bl true, [some (shelf cs t h), some A, none, tb n0 sh] ++ [tb n0 sh]) := ne_at.trans (eq_ok (n := n + 8) (p := pz n0) (q := terms 0 sh) rfl rfl)
  have s6 := st6 (w := w) (F := run T w (n + 10)) (S := [some (shelf cs t h), some A, none, tb n0 sh]) (sh := sh) (n0 := n0) (a3 := a3) (a6 := some (.tup (tms (terms 0 sh)))) (a11 := a11) (a12 := a12) (p := pz n0) (q := terms 0 sh) rfl rfl e91 e97 e51
  have s7 := st7 (w := w) (F := run T w (n + 10)) (S := [some (shelf cs t h), some A, none, tb n0 sh, tb n0 sh]) (sh := sh) (n0 := n0) (a3 := a3) (a4 := some (.ref 1)) (a6 := some (.tup (tms (terms 0 sh)))) (a7 := some (rowsD (pz n0) (terms 0 sh))) (a11 := a11) (a12 := a12) (p := pz n0) (q := terms 0 sh) rfl
  have s8 := st8 (w := w) (F := run T w (n + 10)) (S := [some (shelf cs t h), some A, none, tb n0 sh, tb n0 sh]) (sh := sh) (n0 := n0) (a3 := a3) (a5 := some (.ref 3)) (a6 := some (.tup (tms (terms 0 sh)))) (a7 := some (rowsD (pz n0) (terms 0 sh))) (a11 := a11) (a12 := a12) (A := A) rfl no
  have s9 := st9 hf
  have s11 := st11 (w := w) (n := n) (S := [some (shelf cs t' h'), none, none, tb n0 sh, tb n0 sh]) (sh := sh) (n0 := n0) (a3 := a3) (a11 := a11) (a12 := a12) (A := A) (b8 := b8) (b9 := b9) (x := 1 + r) rfl rfl hs (by omega) (far_wd r1) (far_60 r1) (e52' t' h')
  rw [exs, s3]
  simp only []
  rw [exs, s4]
  simp only []
  rw [exs, s5]
  simp only []
  refine (congrArg (fun z => match z with | none => none | some (Out.nx ρ', S1) => exs (run T w (n + 10)) w (.cons q7 (.cons q8 (.cons q9 (.cons q10 (.cons q11 .nil))))) ρ' S1 | some o => some o) s6).trans ?_
  show exs _ _ (.cons q7 _) _ [some (shelf cs t h), some A, none, tb n0 sh, tb n0 sh] = _
  rw [exs, s7]
  simp only []
  rw [exs, s8]
  show exs _ _ (.cons q9 _) (env0 sh n0 a3 A none none none a11 a12) [some (shelf cs t h), none, none, tb n0 sh, tb n0 sh] = _
  rw [exs, s9]
  simp only []
  rw [exs, e10]
  simp only []
  rw [exs, s11]
  rfl
end Lk52

set_option Elab.async false
set_option linter.all false
set_option maxRecDepth 100000
set_option maxHeartbeats 4000000
namespace Lk52
open PySem Iv
variable {w n : Nat} {S R : Sto} {cs : List Int} {t h : Int} {sh : List Nat} {n0 v u : Nat}
theorem ut (m : Nat) (p q : List (Nat × Nat)) : D.unders m (tabO p q) = true := by
  have q1 := pures_unders (m := m) (tms p) (pures_tms p)
  have q2 := pures_unders (m := m) (tms q) (pures_tms q)
  show (true && (true && ((D.unders m (tms p) && (D.unders m (tms q) && true)) && true))) = true
  rw [q1, q2]
  rfl
theorem clo_a {A : List D} (hA : D.unders 2 A = true) : clo [some (shelf cs t h), some A] := clo_sh (by
  show (D.unders 2 A && true) = true
  rw [hA]; rfl)
theorem clo_b {A : List D} (hA : D.unders 2 A = true) : clo [some (shelf cs t h), some A, none, tb n0 sh, tb n0 sh] := clo_sh (by
  show (D.unders 5 A && (true && (D.unders 5 (tabO (pz n0) (terms 0 sh)) && (D.unders 5 (tabO (pz n0) (terms 0 sh)) && true)))) = true
  rw [unders_mono (by decide) A hA, ut]; rfl)
theorem clo_c : clo [some (shelf cs t h), none, none, tb n0 sh, tb n0 sh] := clo_sh (by
  show (true && (true && (D.unders 5 (tabO (pz n0) (terms 0 sh)) && (D.unders 5 (tabO (pz n0) (terms 0 sh)) && true)))) = true
  rw [ut]; rfl)
theorem two60 : Wd 2 := by unfold Wd; decide
theorem wd_v (hv : Bt v) : Wd (v + 1) := Nat.lt_of_le_of_lt (Nat.add_le_add_right hv 1) (by decide)
theorem val_ok (hs : Sh sh v) : run T w (n + 10) 58 [.lst (nl sh), .int 2] S = some (.int (v : Int), S) := by
  have e := lworth (w := w) (n := n + 9) (S := S) (sh := sh) (b := 2) two60 (by rw [hs.len]; decide)
  rw [hs.val] at e
  exact e
theorem dig_ok (hc : clo S) (hs : Sh sh v) : run T w (n + 10) 59 [.int (hor (v + 1) sh : Nat), .int ((v + 1 : Nat) : Int)] S = some (.lst (nl (strip sh)), S) := by
  have hb : Bd (v + 1) := bd_of (Nat.le_trans (Nat.add_le_add_right hs.big 1) (by decide))
  have hd : digL (v + 1) 80 (hor (v + 1) sh) = strip sh := digL_hor (Nat.succ_le_succ (Nat.zero_le v)) sh 80 hs.lt (by rw [hs.len]; decide)
  have hx : hor (v + 1) sh < (v + 1) ^ 80 := Nat.lt_of_lt_of_le (hor60 hs) (Nat.pow_le_pow_right (Nat.succ_pos v) (by decide))
  have e := ldigits (w := w) (n := n + 9) (S := S) (x := hor (v + 1) sh) (b := v + 1) hc (Nat.succ_le_succ (Nat.zero_le v)) hb hx
  rw [hd] at e
  exact e
theorem told_start {a : Ss} {s1 s2 : Sto} {ρ1 : Iv.Env} {res : Option (Out × Sto)} (hs : Sh sh v) (e2 : ex (run T w (n + 10)) w q2 (en sh n0 (some (.int (v : Int))) (some (.ref 1)) none none none none none none none none) [some (shelf cs t h), some [an0 n0, an1 v]] = some (.nx ρ1, s2)) (e : exs (run T w (n + 10)) w a ρ1 s2 = res) :
    exs (run T w (n + 10)) w (.cons q0 (.cons q1 (.cons q2 a))) (en sh n0 none none none none none none none none none none) [some (shelf cs t h)] = res := by
  have g0 := st0 (w := w) (n0 := n0) (val_ok (w := w) (n := n) (S := [some (shelf cs t h)]) hs)
  have g1 := st1 (w := w) (F := run T w (n + 10)) (X := some (shelf cs t h)) (sh := sh) (n0 := n0) (v := v)
  rw [exs, g0]
  simp only []
  rw [exs, g1]
  simp only []
  rw [exs, e2]
  exact e
theorem right_small (hw : 1000 ≤ w) (hs : Sh sh v) (hn : Bn n0) (h1 : v ≤ 1) (t0 : 0 ≤ t) (t1 : t + 2 ≤ 1000000) (h0 : 0 ≤ h) : ∃ t' h' : Int, t ≤ t' ∧ t' ≤ t + 2 ∧ 0 ≤ h' ∧ exs (run T w (n + 10)) w b__law_told_right (en sh n0 none none none none none none none none none none) [some (shelf cs t h)] = some (.rt (.bl true), [some (shelf cs t' h')] ++ [none, none, tb n0 sh, tb n0 sh, none, tb n0 sh]) := by
  have ua : D.unders 2 [an0 n0, an1 v] = true := rfl
  have e52 := told2 (w := w) (n := n + 1) (S := [some (shelf cs t h), some [an0 n0, an1 v]]) (X := .ref 1) hw (clo_a ua) (.inl ⟨1, rfl, rfl, rfl⟩) hs h1
  have e51 := next2 (w := w) (n := n + 2) (S := [some (shelf cs t h), some [an0 n0, an1 v], none, tb n0 sh, tb n0 sh]) (X := .ref 1) (by omega) (clo_b ua) (.inl ⟨1, rfl, rfl, rfl⟩) hs.big
  rw [show want2 v = .non from if_pos h1] at e51
  obtain ⟨t', h', p1, p2, p3, e⟩ := rest (w := w) (n := n) (cs := cs) (n0 := n0) (a3 := some (.int (v : Int))) (a11 := none) (a12 := none) (A := [an0 n0, an1 v]) hs t0 t1 h0 rfl e52 e51 (for2 rfl hn hs) fun t' h' => told2 (n := n + 1) hw clo_c (.inr rfl) hs h1
  refine ⟨t', h', p1, p2, p3, ?_⟩
  rw [told_body]
  exact told_start (s1 := []) hs (st2_small h1 _) e
theorem right_big (hw : 1000 ≤ w) (hs : Sh sh v) (hn : Bn n0) (h2 : 2 ≤ v) (t0 : 0 ≤ t) (t1 : t + 2 ≤ 1000000) (h0 : 0 ≤ h) : ∃ t' h' : Int, t ≤ t' ∧ t' ≤ t + 2 ∧ 0 ≤ h' ∧ exs (run T w (n + 10)) w b__law_told_right (en sh n0 none none none none none none none none none none) [some (shelf cs t h)] = some (.rt (.bl true), [some (shelf cs t' h')] ++ [none, none, tb n0 sh, tb n0 sh, none, tb n0 sh]) := by
  have ua2 : D.unders 2 [an0 n0, an1 v] = true := rfl
  have ua : D.unders 2 [an0 n0, an1 v, an2 v (hor (v + 1) sh)] = true := rfl
  have e52 := told3 (w := w) (n := n + 1) (S := [some (shelf cs t h), some [an0 n0, an1 v, an2 v (hor (v + 1) sh)]]) (X := .ref 1) hw (clo_a ua) (.inl ⟨1, rfl, rfl, rfl⟩) hs h2
  have e51 := next3 (w := w) (n := n + 2) (S := [some (shelf cs t h), some [an0 n0, an1 v, an2 v (hor (v + 1) sh)], none, tb n0 sh, tb n0 sh]) (X := .ref 1) (by omega) (clo_b ua) (.inl ⟨1, rfl, rfl, rfl⟩) hs.big h2
  have f51 := next2 (w := w) (n := n + 2) (S := [some (shelf cs t h), some [an0 n0, an1 v]]) (X := .ref 1) (by omega) (clo_a ua2) (.inl ⟨1, rfl, rfl, rfl⟩) hs.big
  rw [show want2 v = .tup [.int ((v + 1 : Nat) : Int)] from if_neg (by omega)] at f51
  have f58 := lworth (w := w) (n := n + 9) (S := [some (shelf cs t h), some [an0 n0, an1 v]]) (sh := sh) (b := v + 1) (wd_v hs.big) (by rw [hs.len]; decide)
  have f59 := dig_ok (w := w) (n := n) (S := [some (shelf cs t h), some [an0 n0, an1 v]]) (clo_a ua2) hs
  obtain ⟨t', h', p1, p2, p3, e⟩ := rest (w := w) (n := n) (cs := cs) (n0 := n0) (a3 := some (.int (v : Int))) (a11 := some (.int (hor (v + 1) sh : Nat))) (a12 := some (.lst (nl (strip sh)))) (A := [an0 n0, an1 v, an2 v (hor (v + 1) sh)]) hs t0 t1 h0 rfl e52 e51 (for3 rfl hn hs) fun t' h' => told3 (n := n + 1) hw clo_c (.inr rfl) hs h2
  refine ⟨t', h', p1, p2, p3, ?_⟩
  rw [told_body]
  exact told_start (s1 := []) hs (st2_big h2 f58 f59 f51) e
theorem told_right (hw : 1000 ≤ w) (hs : Sh sh v) (hn : Bn n0) (t0 : 0 ≤ t) (t1 : t + 2 ≤ 1000000) (h0 : 0 ≤ h) : ∃ t' h' : Int, t ≤ t' ∧ t' ≤ t + 2 ∧ 0 ≤ h' ∧ run T w (n + 11) 60 [.ref 0, .lst (nl sh), .int (n0 : Int)] [some (shelf cs t h)] = some (.bl true, [some (shelf cs t' h')]) := by
  obtain ⟨t', h', p1, p2, p3, e⟩ : ∃ t' h' : Int, t ≤ t' ∧ t' ≤ t + 2 ∧ 0 ≤ h' ∧ exs (run T w (n + 10)) w b__law_told_right (en sh n0 none none none none none none none none none none) [some (shelf cs t h)] = some (.rt (.bl true), [some (shelf cs t' h')] ++ [none, none, tb n0 sh, tb n0 sh, none, tb n0 sh]) := by
    by_cases h1 : v ≤ 1
    · exact right_small hw hs hn h1 t0 t1 h0
    · exact right_big hw hs hn (by omega) t0 t1 h0
  exact ⟨t', h', p1, p2, p3, run_rtm (S2 := [some (shelf cs t' h')]) t60 rfl rfl (clo_sh rfl) rfl e⟩
def lwE : E := .lst (.cons (.c (.int 0)) (.cons (.c (.int 1)) (.cons (.c (.int 5)) (.cons (.op .Pow (.c (.int 10)) (.c (.int 40))) .nil))))
def lwU : Ss := (.cons (.asg (.n 5) (.call 55 (.cons (.v 1) (.cons lwE .nil)))) (.cons (.ifs (.not (.call 60 (.cons (.v 1) (.cons (.call 57 (.cons (.v 1) .nil)) (.cons (.v 5) .nil))))) (.cons (.ret (.c (.bl false))) .nil) .nil) .nil))
def lwF : E := (.and (.call 60 (.cons (.v 1) (.cons (.v 3) (.cons (.c (.int 0)) .nil)))) (.and (.call 60 (.cons (.v 1) (.cons (.v 4) (.cons (.c (.int 1)) .nil)))) (.and (.call 60 (.cons (.v 1) (.cons (.op .Mult (.lst (.cons (.c (.int 0)) .nil)) (.c (.int 60))) (.cons (.c (.int 3)) .nil)))) (.call 60 (.cons (.v 1) (.cons (.op .Add (.lst (.cons (.c (.int 1)) .nil)) (.op .Mult (.lst (.cons (.c (.int 0)) .nil)) (.c (.int 59)))) (.cons (.c (.int 0)) .nil)))))))
def lwP : St := (.par [3, 4] (.cons (.op .Add (.op .Mult (.lst (.cons (.c (.int 0)) .nil)) (.c (.int 59))) (.lst (.cons (.c (.int 1)) .nil))) (.cons (.op .Add (.lst (.cons (.c (.int 0)) (.cons (.c (.int 1)) .nil))) (.op .Mult (.lst (.cons (.c (.int 0)) .nil)) (.c (.int 58)))) .nil)))
theorem law_body : b_law = .cons (.asg (.n 1) (.call 53 (.cons (.v 0) .nil))) (.cons (.for (.n 2) (.rng (.c (.int 0)) (.c (.int 3))) lwU) (.cons lwP (.cons (.ret lwF) .nil))) := rfl
theorem ev_lwE {F : CF} {ρ : Iv.Env} : ev F lwE ρ S = some (.lst (nl [0, 1, 5, 10000000000000000000000000000000000000000]), S) := by
  have pw : opD .Pow (.int 10) (.int 40) = some (.int ((10000000000000000000000000000000000000000 : Nat) : Int)) := by rw [op_pow (by decide) (by decide) (by decide)]; rfl
  have four : small 4 = true := rfl
  simp only [lwE, ev, evs, see_int, pw, List.length_cons, List.length_nil, Nat.zero_add, Nat.reduceAdd, four, if_true]
  rfl
theorem bn_in : ∀ m ∈ [0, 1, 5, 10000000000000000000000000000000000000000], Bn m := by
  unfold Bn
  decide
theorem law_turn {a0 a2 a3 a4 a5 : Option D} (hw : 1000 ≤ w) (t0 : 0 ≤ t) (t1 : t + 50 ≤ 1000000) (h0 : 0 ≤ h) : ∃ (t' h' : Int) (b5 : Option D), t ≤ t' ∧ t' ≤ t + 50 ∧ 0 ≤ h' ∧ exs (run T w (n + 11)) w lwU [a0, some (.ref 0), a2, a3, a4, a5] [some (shelf cs t h)] = some (.nx [a0, some (.ref 0), a2, a3, a4, b5], [some (shelf cs t' h')]) := by
  obtain ⟨m, ta, ha, m1, p1, p2, p3, e1⟩ := pick_ok (w := w) (n := n + 9) (cs := cs) (R := []) (xs := [0, 1, 5, 10000000000000000000000000000000000000000]) (by simp) (by decide) t0 (by omega) h0
  obtain ⟨sh, v, tb', hb, hs, q1, q2, q3, e2⟩ := shares_ok (w := w) (n := n + 8) (cs := cs) (t := ta) (h := ha) (by omega) (by omega) p3
  obtain ⟨tc, hc, r1, r2, r3, e3⟩ := told_right (w := w) (n := n) (cs := cs) (t := tb') (h := hb) hw hs (bn_in m m1) (by omega) (by omega) q3
  refine ⟨tc, hc, some (.int (m : Int)), by omega, by omega, r3, ?_⟩
  have s1 : ex (run T w (n + 11)) w (.asg (.n 5) (.call 55 (.cons (.v 1) (.cons lwE .nil)))) [a0, some (.ref 0), a2, a3, a4, a5] [some (shelf cs t h)] = some (.nx [a0, some (.ref 0), a2, a3, a4, some (.int (m : Int))], [some (shelf cs ta ha)]) := by
    simp only [ex, ev, evs, List.getElem?_cons_succ, List.getElem?_cons_zero, ev_lwE, e1, setT, List.set_cons_succ, List.set_cons_zero]
  have s2 : ev (run T w (n + 11)) (.not (.call 60 (.cons (.v 1) (.cons (.call 57 (.cons (.v 1) .nil)) (.cons (.v 5) .nil))))) [a0, some (.ref 0), a2, a3, a4, some (.int (m : Int))] [some (shelf cs ta ha)] = some (.bl false, [some (shelf cs tc hc)]) := by
    simp only [ev, evs, List.getElem?_cons_succ, List.getElem?_cons_zero, e2, e3, Bool.not_true]
  rw [lwU, exs, s1]
  simp only []
  rw [exs, ex, s2]
  simp only [exs]
def shA1 : List Nat := List.replicate 59 0 ++ [1]
def shA2 : List Nat := [0, 1] ++ List.replicate 58 0
def shA3 : List Nat := List.replicate 60 0
def shA4 : List Nat := [1] ++ List.replicate 59 0
theorem ok1 : Sh shA1 (2 ^ 59) := ⟨rfl, by decide +kernel, by unfold Bt; decide⟩
theorem ok2 : Sh shA2 2 := ⟨rfl, by decide +kernel, by unfold Bt; decide⟩
theorem ok3 : Sh shA3 0 := ⟨rfl, by decide +kernel, by unfold Bt; decide⟩
theorem ok4 : Sh shA4 1 := ⟨rfl, by decide +kernel, by unfold Bt; decide⟩
theorem rng3 {F : CF} {ρ : Iv.Env} : ev F (.rng (.c (.int 0)) (.c (.int 3))) ρ S = some (.lst [.int (0 + (0 : Nat)), .int (0 + (1 : Nat)), .int (0 + (2 : Nat))], S) := by
  rw [ev]
  simp only [ev]
  rw [if_pos (by decide)]
  rfl
theorem law_ok (hw : 1000 ≤ w) (ns : List Int) : ∃ S', run T w (n + 12) 61 [.lst (ns.map D.int)] [] = some (.bl true, S') := by
  have e1 := shelf_ok (T := T) (w := w) (n := n + 10) (f := 53) (k := 62) rfl (by decide) ns
  generalize hcs : ns.take 62 = cs at e1
  obtain ⟨ta, ha, b1, p1, p2, p3, u1⟩ := law_turn (w := w) (n := n) (cs := cs) (t := 0) (h := 0) (a0 := some (.lst (ns.map D.int))) (a2 := some (.int (0 + (0 : Nat)))) (a3 := none) (a4 := none) (a5 := none) hw (by decide) (by decide) (by decide)
  obtain ⟨tb', hb, b2, q1, q2, q3, u2⟩ := law_turn (w := w) (n := n) (cs := cs) (t := ta) (h := ha) (a0 := some (.lst (ns.map D.int))) (a2 := some (.int (0 + (1 : Nat)))) (a3 := none) (a4 := none) (a5 := b1) hw (by omega) (by omega) p3
  obtain ⟨tc, hc, b3, r1, r2, r3, u3⟩ := law_turn (w := w) (n := n) (cs := cs) (t := tb') (h := hb) (a0 := some (.lst (ns.map D.int))) (a2 := some (.int (0 + (2 : Nat)))) (a3 := none) (a4 := none) (a5 := b2) hw (by omega) (by omega) q3
  obtain ⟨t4, h4, c1, c2, c3, f1⟩ := told_right (w := w) (n := n) (cs := cs) (t := tc) (h := hc) (n0 := 0) hw ok1 (by unfold Bn; decide) (by omega) (by omega) r3
  obtain ⟨t5, h5, d1, d2, d3, f2⟩ := told_right (w := w) (n := n) (cs := cs) (t := t4) (h := h4) (n0 := 1) hw ok2 (by unfold Bn; decide) (by omega) (by omega) c3
  obtain ⟨t6, h6, x1, x2, x3, f3⟩ := told_right (w := w) (n := n) (cs := cs) (t := t5) (h := h5) (n0 := 3) hw ok3 (by unfold Bn; decide) (by omega) (by omega) d3
  obtain ⟨t7, h7, y1, y2, y3, f4⟩ := told_right (w := w) (n := n) (cs := cs) (t := t6) (h := h6) (n0 := 0) hw ok4 (by unfold Bn; decide) (by omega) (by omega) x3
  have s1 : ex (run T w (n + 11)) w (.asg (.n 1) (.call 53 (.cons (.v 0) .nil))) [some (.lst (ns.map D.int)), none, none, none, none, none] [] = some (.nx [some (.lst (ns.map D.int)), some (.ref 0), none, none, none, none], [some (shelf cs 0 0)]) := by
    simp only [ex, ev, evs, List.getElem?_cons_zero, e1, setT, List.set_cons_succ, List.set_cons_zero]
  have s2 : ex (run T w (n + 11)) w (.for (.n 2) (.rng (.c (.int 0)) (.c (.int 3))) lwU) [some (.lst (ns.map D.int)), some (.ref 0), none, none, none, none] [some (shelf cs 0 0)] = some (.nx [some (.lst (ns.map D.int)), some (.ref 0), some (.int (0 + (2 : Nat))), none, none, b3], [some (shelf cs tc hc)]) := by
    rw [ex, rng3]
    exact (forRun_nx rfl u1).trans ((forRun_nx rfl u2).trans ((forRun_nx rfl u3).trans rfl))
  have m59 : opD .Mult (.lst [.int 0]) (.int 59) = some (.lst (nl (List.replicate 59 0))) := rfl
  have m58 : opD .Mult (.lst [.int 0]) (.int 58) = some (.lst (nl (List.replicate 58 0))) := rfl
  have m60 : opD .Mult (.lst [.int 0]) (.int 60) = some (.lst (nl shA3)) := rfl
  have p59 : opD .Add (.lst (nl (List.replicate 59 0))) (.lst [.int 1]) = some (.lst (nl shA1)) := rfl
  have p58 : opD .Add (.lst [.int 0, .int 1]) (.lst (nl (List.replicate 58 0))) = some (.lst (nl shA2)) := rfl
  have p60 : opD .Add (.lst [.int 1]) (.lst (nl (List.replicate 59 0))) = some (.lst (nl shA4)) := rfl
  have one : small 1 = true := rfl
  have two : small 2 = true := rfl
  have l : ∀ (S : Sto) x, see S (.lst x) = some (.lst x) := fun _ _ => rfl
  have s3 : ex (run T w (n + 11)) w lwP [some (.lst (ns.map D.int)), some (.ref 0), some (.int (0 + (2 : Nat))), none, none, b3] [some (shelf cs tc hc)] = some (.nx [some (.lst (ns.map D.int)), some (.ref 0), some (.int (0 + (2 : Nat))), some (.lst (nl shA1)), some (.lst (nl shA2)), b3], [some (shelf cs tc hc)]) := by
    simp only [lwP, ex, ev, evs, List.length_cons, List.length_nil, Nat.zero_add, Nat.reduceAdd, one, two, if_true, l, see_int, m59, m58, p59, p58]
    rfl
  generalize hρ : ([some (.lst (ns.map D.int)), some (.ref 0), some (.int (0 + (2 : Nat))), some (.lst (nl shA1)), some (.lst (nl shA2)), b3] : Iv.Env) = ρ at s3
  have v1 : ∀ S, ev (run T w (n + 11)) (.v 1) ρ S = some (.ref 0, S) := fun S => by rw [← hρ]; rfl
  have v3 : ∀ S, ev (run T w (n + 11)) (.v 3) ρ S = some (.lst (nl shA1), S) := fun S => by rw [← hρ]; rfl
  have v4 : ∀ S, ev (run T w (n + 11)) (.v 4) ρ S = some (.lst (nl shA2), S) := fun S => by rw [← hρ]; rfl
  have w1 : ev (run T w (n + 11)) (.call 60 (.cons (.v 1) (.cons (.v 3) (.cons (.c (.int 0)) .nil)))) ρ [some (shelf cs tc hc)] = some (.bl true, [some (shelf cs t4 h4)]) := by
    rw [ev, evs, v1]
    simp only []
    rw [evs, v3]
    exact f1
  have w2 : ev (run T w (n + 11)) (.call 60 (.cons (.v 1) (.cons (.v 4) (.cons (.c (.int 1)) .nil)))) ρ [some (shelf cs t4 h4)] = some (.bl true, [some (shelf cs t5 h5)]) := by
    rw [ev, evs, v1]
    simp only []
    rw [evs, v4]
    exact f2
  have x60 : ∀ S, ev (run T w (n + 11)) (.op .Mult (.lst (.cons (.c (.int 0)) .nil)) (.c (.int 60))) ρ S = some (.lst (nl shA3), S) := fun S => by
    simp only [ev, evs, List.length_cons, List.length_nil, Nat.zero_add, one, if_true, l, see_int, m60]
  have x59 : ∀ S, ev (run T w (n + 11)) (.op .Add (.lst (.cons (.c (.int 1)) .nil)) (.op .Mult (.lst (.cons (.c (.int 0)) .nil)) (.c (.int 59)))) ρ S = some (.lst (nl shA4), S) := fun S => by
    simp only [ev, evs, List.length_cons, List.length_nil, Nat.zero_add, one, if_true, l, see_int, m59, p60]
  have w3 : ev (run T w (n + 11)) (.call 60 (.cons (.v 1) (.cons (.op .Mult (.lst (.cons (.c (.int 0)) .nil)) (.c (.int 60))) (.cons (.c (.int 3)) .nil)))) ρ [some (shelf cs t5 h5)] = some (.bl true, [some (shelf cs t6 h6)]) := by
    rw [ev, evs, v1]
    simp only []
    rw [evs, x60]
    exact f3
  have w4 : ev (run T w (n + 11)) (.call 60 (.cons (.v 1) (.cons (.op .Add (.lst (.cons (.c (.int 1)) .nil)) (.op .Mult (.lst (.cons (.c (.int 0)) .nil)) (.c (.int 59)))) (.cons (.c (.int 0)) .nil)))) ρ [some (shelf cs t6 h6)] = some (.bl true, [some (shelf cs t7 h7)]) := by
    rw [ev, evs, v1]
    simp only []
    rw [evs, x59]
    exact f4
  have fin : ev (run T w (n + 11)) lwF ρ [some (shelf cs tc hc)] = some (.bl true, [some (shelf cs t7 h7)]) := by
    rw [lwF, ev, w1]
    simp only []
    rw [ev, w2]
    simp only []
    rw [ev, w3]
    simp only []
    exact w4
  have body : exs (run T w (n + 11)) w b_law [some (.lst (ns.map D.int)), none, none, none, none, none] [] = some (.rt (.bl true), [some (shelf cs t7 h7)]) := by
    rw [law_body, exs, s1]
    simp only []
    rw [exs, s2]
    simp only []
    rw [exs, s3]
    simp only []
    rw [exs, ex, fin]
  exact ⟨_, run_rt t61 rfl body⟩
end Lk52

theorem PySem.Challenge.cw_timesagain_k52_one_number_told_by_two_as_holds : PySem.Challenge.rw_timesagain_k52_one_number_told_by_two_as.Holds :=
  Lk52.holds_of fun ns _ => Lk52.law_ok (n := 88) (w := 1000000) (by decide) ns
