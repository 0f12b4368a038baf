import PyProof.Rows.All
import Wide.All
import OpenK.AllK
import Wide.FinOn
import HandS.ForMost
import HandS.Wide
import HandS.Style
import HandS.Deep
import KE.SortData
import KE.KSortAsk
import KE.LtSeq
import KE.SortCalls
import HandS.IsInst
import HandS.TupMul
import HandS.TupAny
import KE.KTupSum
import HandS.WideBits
import HandS.More
import HandS.FStr
import HandS.TryOnly
import HandS.Defaults
import KE.GoesMore
import HandS.HeadEnd
import HandS.Head0
import HandS.Head1
import HandS.Head2
import HandS.HeadHook1
import HandS.HeadHook2
import HandS.HeadHook3
import HandS.HeadHook4
import PySem.Challenge.RW_timesagain_k51_next_asks_by_own_reckonin
set_option Elab.async false
set_option linter.all false
namespace Iv
open PySem

/-- data: tuples and lists are values; a list that may change stands in the store, at a place -/
inductive D where
  | non | bl (b : Bool) | int (i : Int) | str (x : Str) | tup (xs : List D) | lst (xs : List D) | ref (i : Nat)
  deriving Inhabited

mutual
def D.py : D → PyData
  | .non => .none
  | .bl b => .bool b
  | .int i => .int i
  | .str x => .str x
  | .tup xs => .tuple (D.pys xs)
  | .lst xs => .list (D.pys xs)
  | .ref _ => .none
def D.pys : List D → List PyData
  | [] => []
  | x :: xs => D.py x :: D.pys xs
end
mutual
/-- no place of the store within -/
def D.pure : D → Bool
  | .tup xs => D.pures xs
  | .lst xs => D.pures xs
  | .ref _ => false
  | _ => true
def D.pures : List D → Bool
  | [] => true
  | x :: xs => D.pure x && D.pures xs
end
mutual
/-- all places within stand below n -/
def D.under (n : Nat) : D → Bool
  | .tup xs => D.unders n xs
  | .lst xs => D.unders n xs
  | .ref i => decide (i < n)
  | _ => true
def D.unders (n : Nat) : List D → Bool
  | [] => true
  | x :: xs => D.under n x && D.unders n xs
end
/-- what == takes: no places, signs that are such, not too deep -/
def D.ok (d : D) : Bool := d.pure && d.py.canLay0 && decide (d.py.depth ≤ 190)
def D.eqv (a b : D) : Bool := PyData.eqv a.py b.py
/-- None, truths, integers, texts -/
def D.flat : D → Bool
  | .non => true
  | .bl _ => true
  | .int _ => true
  | .str _ => true
  | _ => false

abbrev Env := List (Option D)
abbrev Sto := List (Option (List D))

/-- a list at a place is seen as what it holds -/
def see (S : Sto) : D → Option D
  | .ref i => match S[i]? with
    | some (some xs) => some (.lst xs)
    | _ => none
  | d => some d

inductive BI where
  | len | int | abs | tuple | list | all | any | sum | max2 | str | repr | sorted
  deriving DecidableEq
inductive Ty where
  | int | bool | str | list | tuple
  deriving DecidableEq
inductive ME where
  | append | pop | popAt | extend | index | join | lower | isalpha | isalnum
  deriving DecidableEq
inductive Tg where
  | n (i : Nat) | t (is : List Nat)
mutual
inductive E where
  | v (i : Nat)
  | frz (i : Nat)
  | c (d : D)
  | g (x : Str) (d : D)
  | op (o : Operator) (a b : E)
  | neg (a : E)
  | cmp (o : CmpOp) (a b : E)
  | chain (o p : CmpOp) (a b c : E)
  | and (a b : E)
  | or (a b : E)
  | not (a : E)
  | ite (c a b : E)
  | tup (es : Es)
  | lst (es : Es)
  | new (es : Es)
  | ix (a i : E)
  | sl (a lo hi : E)
  | call (f : Nat) (es : Es)
  | callK (f : Nat) (es kes : Es) (pm : List Nat)
  | bi (b : BI) (es : Es)
  | mk (es : Es)
  | fmt (a : E)
  | js (es : Es)
  | sset (a : E)
  | comp (mt : Bool) (t : Tg) (it : E) (elt : E)
  | compI (mt : Bool) (t : Tg) (it : E) (cond elt : E)
  | comp2 (mt : Bool) (t : Tg) (it : E) (t2 : Tg) (it2 elt : E)
  | bits (a : E)
  | meth (m : ME) (o : E) (es : Es)
  | isi (e : E) (tys : List Ty)
  | rng (a b : E)
  | zip (a b : E)
  | enum (a : E)
  | zipT (a b : E)
inductive Es where
  | nil
  | cons (e : E) (es : Es)
  | star (e : E) (es : Es)
end
mutual
inductive St where
  | asg (t : Tg) (e : E)
  | par (is : List Nat) (es : Es)
  | put (o i e : E)
  | ex (e : E)
  | ret (e : E)
  | ifs (c : E) (a b : Ss)
  | for (t : Tg) (it : E) (b : Ss)
  | wh (c : E) (b : Ss)
  | never
  | frz (i : Nat)
  | pass
  | brk
  | cnt
inductive Ss where
  | nil
  | cons (s : St) (ss : Ss)
end

/-- texts one behind the other -/
def catS : Str → List Str → Str
  | acc, [] => acc
  | acc, y :: ys => catS (acc ++ y) ys
def small (n : Nat) : Bool := decide (n ≤ 100000)

/-- what a loop walks -/
def items : D → Option (List D)
  | .lst xs => some xs
  | .tup xs => some xs
  | .str x => some (x.cps.toList.map fun c => .str ⟨#[c]⟩)
  | _ => none

def ints? : List D → Option (List Int)
  | [] => some []
  | .int i :: r => (ints? r).map (i :: ·)
  | _ :: _ => none
def bls? : List D → Option (List Bool)
  | [] => some []
  | .bl b :: r => (bls? r).map (b :: ·)
  | _ :: _ => none
def strs? : List D → Option (List Str)
  | [] => some []
  | .str x :: r => (strs? r).map (x :: ·)
  | _ :: _ => none

/-- a op b -/
def opD (o : Operator) (x y : D) : Option D :=
  match o, x, y with
  | .Add, .int i, .int j => some (.int (i + j))
  | .Sub, .int i, .int j => some (.int (i - j))
  | .Mult, .int i, .int j => if (decide (i.natAbs < 2 ^ 63) || decide (j.natAbs < 2 ^ 63)) || (decide (i.natAbs < 2 ^ 400000) && decide (j.natAbs < 2 ^ 400000)) then some (.int (i * j)) else none
  | .FloorDiv, .int i, .int j => if decide (0 < j) && decide (j.natAbs < 2 ^ 8000) then some (.int (i / j)) else none
  | .Mod, .int i, .int j => if decide (0 < j) then some (.int (i % j)) else none
  | .Pow, .int i, .int j => if decide (0 ≤ j) && decide (j ≤ 1000) && decide (i.natAbs < 2 ^ 64) then some (.int (i ^ j.toNat)) else none
  | .Add, .str a, .str b => if small (a.length + b.length) then some (.str (a ++ b)) else none
  | .Add, .tup a, .tup b => if small (a.length + b.length) then some (.tup (a ++ b)) else none
  | .Add, .lst a, .lst b => if small (a.length + b.length) then some (.lst (a ++ b)) else none
  | .Mult, .tup a, .int j => if decide (0 < a.length) && decide (a.length ≤ 1000) && (decide (2 ≤ j) && decide (j ≤ 1000)) then some (.tup (List.replicate j.toNat a).flatten) else none
  | .Mult, .lst a, .int j => if small (a.length * j.toNat) && (decide (-100000 ≤ j) && decide (j ≤ 100000)) then some (.lst (List.replicate j.toNat a).flatten) else none
  | _, _, _ => none

def inFlat (x : D) (xs : List D) : Bool := xs.any fun y => D.eqv y x

/-- a op b, compared -/
def cmpD (o : CmpOp) (x y : D) : Option Bool :=
  match o with
  | .Eq => match x, y with
    | .int i, .int j => some (decide (i = j))
    | .str a, .str b => some (decide (a = b))
    | _, _ => if x.ok && y.ok then some (D.eqv x y) else none
  | .NotEq => match x, y with
    | .int i, .int j => some (!decide (i = j))
    | .str a, .str b => some (!decide (a = b))
    | _, _ => if x.ok && y.ok then some (!D.eqv x y) else none
  | .Lt => match x, y with | .int i, .int j => some (decide (i < j)) | _, _ => none
  | .LtE => match x, y with | .int i, .int j => some (decide (i ≤ j)) | _, _ => none
  | .Gt => match x, y with | .int i, .int j => some (decide (j < i)) | _, _ => none
  | .GtE => match x, y with | .int i, .int j => some (decide (j ≤ i)) | _, _ => none
  | .In => match y with
    | .lst ys => if x.flat && ys.all D.flat then some (inFlat x ys) else none
    | .tup ys => if x.flat && ys.all D.flat then some (inFlat x ys) else none
    | .str z => match x with | .str c => if c.length == 1 then some (decide (c.cps.getD 0 0 ∈ z.cps.toList)) else none | _ => none
    | _ => none
  | .NotIn => match y with
    | .lst ys => if x.flat && ys.all D.flat then some (!inFlat x ys) else none
    | .tup ys => if x.flat && ys.all D.flat then some (!inFlat x ys) else none
    | .str z => match x with | .str c => if c.length == 1 then some (!decide (c.cps.getD 0 0 ∈ z.cps.toList)) else none | _ => none
    | _ => none
  | .Is => match x, y with
    | .bl a, .bl b => some (decide (a = b))
    | .non, .non => some true
    | _, .non => some false
    | _, _ => none
  | .IsNot => match x, y with
    | .bl a, .bl b => some (!decide (a = b))
    | .non, .non => some false
    | _, .non => some true
    | _, _ => none

/-- x[i] -/
def ixD (x i : D) : Option D :=
  match x, i with
  | .lst xs, .int k => L2.atI xs k
  | .tup xs, .int k => L2.atI xs k
  | .str z, .int k => if small z.length then (L2.atI z.cps.toList k).map fun c => .str ⟨#[c]⟩ else none
  | _, _ => none

def cutD (xs : List D) (lo hi : Option Int) : List D := (xs.drop (HT.sIx xs.length 0 lo)).take (HT.sIx xs.length xs.length hi - HT.sIx xs.length 0 lo)
def part? : D → Option (Option Int)
  | .non => some none
  | .int i => some (some i)
  | _ => none
/-- x[lo:hi] -/
def slD (x : D) (lo hi : Option Int) : Option D :=
  match x with
  | .lst xs => some (.lst (cutD xs lo hi))
  | .tup xs => some (.tup (cutD xs lo hi))
  | .str z => if small z.length then some (.str (L2.cutS z lo hi)) else none
  | _ => none

def tyOf : D → Option Ty
  | .bl _ => some .bool
  | .int _ => some .int
  | .str _ => some .str
  | .lst _ => some .list
  | .tup _ => some .tuple
  | .ref _ => some .list
  | .non => none
def isTy (d : D) (t : Ty) : Bool := match tyOf d with
  | some u => u == t || (u == .bool && t == .int)
  | none => false

/-- what repr takes -/
def D.shows (d : D) : Bool := d.pure && d.py.showable && d.py.canLay0 && decide (d.py.depth ≤ 60) && decide (d.py.shown.length ≤ 100000)
/-- what sorted takes: data that can be compared, all texts or numbers, or tuples, the first of them empty -/
def allAlike (xs : List D) : Bool := xs.all fun a => xs.all fun b => PySem.W.alike a.py b.py
def D.isTup : D → Bool
  | .tup _ => true
  | _ => false
def D.isAtom : D → Bool
  | .int _ => true
  | .str _ => true
  | _ => false
def headNil : List D → Bool
  | .tup [] :: _ => true
  | _ => false
def D.isTup1 : D → Bool
  | .tup (_ :: _) => true
  | _ => false
def sortOk (xs : List D) : Bool := small xs.length && D.pures xs && allAlike xs && (xs.all fun a => decide (a.py.depth ≤ 100)) && ((headNil xs && xs.all D.isTup) || (xs.all D.isAtom || xs.all D.isTup1))
def sortD (xs : List D) : List D := xs.mergeSort fun a b => !PySem.W.dataLt b.py a.py
/-- those that are new, in the order in which they come -/
def fresh1 (f : List Str) : List Str → List Str
  | [] => f
  | x :: l => if x ∈ f then fresh1 f l else fresh1 (f ++ [x]) l
/-- texts in order -/
def sortS (l : List Str) : List Str := l.mergeSort fun a b => !PySem.W.dataLt (.str b) (.str a)
/-- the builtins -/
def biD (b : BI) (xs : List D) : Option D :=
  match b, xs with
  | .len, [.lst xs] => some (.int xs.length)
  | .len, [.tup xs] => some (.int xs.length)
  | .len, [.str z] => if small z.length then some (.int z.length) else none
  | .int, [.int i] => some (.int i)
  | .int, [.bl b] => some (.int (if b then 1 else 0))
  | .abs, [.int i] => some (.int (if i < 0 then -i else i))
  | .tuple, [.lst xs] => some (.tup xs)
  | .tuple, [.tup xs] => some (.tup xs)
  | .list, [.lst xs] => some (.lst xs)
  | .list, [.tup xs] => some (.lst xs)
  | .list, [.str z] => if small z.length then some (.lst (z.cps.toList.map fun c => .str ⟨#[c]⟩)) else none
  | .all, [.lst xs] => (bls? xs).map fun bs => .bl (bs.all id)
  | .any, [.lst xs] => (bls? xs).map fun bs => .bl (bs.any id)
  | .sum, [.lst xs] => (ints? xs).map fun ns => .int ns.sum
  | .sum, [.tup xs] => (ints? xs).map fun ns => .int ns.sum
  | .max2, [.int i, .int j] => some (.int (if j > i then j else i))
  | .str, [.int i] => if decide (i.natAbs < 2 ^ 1900) then some (.str (toString i)) else none
  | .repr, [.lst xs] => if D.shows (.lst xs) then some (.str ((D.lst xs).py.shown)) else none
  | .repr, [.tup xs] => if D.shows (.tup xs) then some (.str ((D.tup xs).py.shown)) else none
  | .repr, [.bl b] => some (.str ((D.bl b).py.shown))
  | .repr, [.str z] => if small ((D.str z).py.shown.length) then some (.str ((D.str z).py.shown)) else none
  | .sorted, [.lst xs] => if sortOk xs then some (.lst (sortD xs)) else none
  | .sorted, [.tup xs] => match strs? xs with
    | some ss => if decide (ss.length ≤ 1000) then some (.lst ((sortS ss).map D.str)) else none
    | none => none
  | _, _ => none

def setT : Tg → D → Env → Option Env
  | .n i, d, ρ => some (ρ.set i (some d))
  | .t is, .tup ds, ρ => if ds.length = is.length then some ((is.zip ds).foldl (fun r p => r.set p.1 (some p.2)) ρ) else none
  | .t is, .lst ds, ρ => if ds.length = is.length then some ((is.zip ds).foldl (fun r p => r.set p.1 (some p.2)) ρ) else none
  | _, _, _ => none
def wipeT : Tg → Env → Env
  | .n i, ρ => ρ.set i none
  | .t is, ρ => is.foldr (fun i r => r.set i none) ρ

def isNonE : E → Bool
  | .c .non => true
  | _ => false
def isIntD : D → Bool
  | .int _ => true
  | _ => false
/-- a call of a def, by its number: what it hands back, the store behind it -/
abbrev CF := Nat → List D → Sto → Option (D × Sto)

/-- arguments in the parameters' order -/
def prm {α : Type} (pm : List Nat) (xs : List α) : List α := pm.filterMap fun i => xs[i]?
/-- how many, where no star stands -/
def plainEs : Es → Option Nat
  | .nil => some 0
  | .cons _ es => (plainEs es).map (· + 1)
  | .star _ _ => none
/-- a comprehension's turns -/
def compRun (f : D → Sto → Option (Option D × Sto)) : List D → List D → Sto → Option (List D × Sto)
  | [], acc, S => some (acc, S)
  | d :: ds, acc, S => match f d S with
    | none => none
    | some (none, S1) => compRun f ds acc S1
    | some (some y, S1) => if small (acc.length + 1) then compRun f ds (acc ++ [y]) S1 else none

/-- two fors -/
def comp2Run (g : D → Sto → Option (List D × (D → Sto → Option (Option D × Sto)) × Sto)) : List D → List D → Sto → Option (List D × Sto)
  | [], acc, S => some (acc, S)
  | d :: ds, acc, S => match g d S with
    | none => none
    | some (ys, f, S1) => match compRun f ys acc S1 with
      | none => none
      | some (acc2, S2) => comp2Run g ds acc2 S2

/-- a new list: a value, or a place of the store -/
def mkList (mt : Bool) (xs : List D) (S : Sto) : Option (D × Sto) :=
  if mt then some (.ref S.length, S ++ [some xs]) else some (.lst xs, S)

/-- methods: the receiver, the arguments, the store -/
def meD (m : ME) (o : D) (xs : List D) (S : Sto) : Option (D × Sto) :=
  match m, o, xs with
  | .append, .ref i, [x] => match S[i]? with
    | some (some ys) => if small (ys.length + 1) then some (.non, S.set i (some (ys ++ [x]))) else none
    | _ => none
  | .extend, .ref i, [.lst x] => match S[i]? with
    | some (some ys) => if small (ys.length + x.length) then some (.non, S.set i (some (ys ++ x))) else none
    | _ => none
  | .pop, .ref i, [] => match S[i]? with
    | some (some ys) => match ys[ys.length - 1]? with
      | some y => some (y, S.set i (some ys.dropLast))
      | none => none
    | _ => none
  | .popAt, .ref i, [.int k] => match S[i]? with
    | some (some ys) => match L2.ixN ys.length k with
      | some j => if small ys.length then (match ys[j]? with
        | some y => some (y, S.set i (some (ys.eraseIdx j)))
        | none => none) else none
      | none => none
    | _ => none
  | .index, .lst ys, [x] => if x.flat && ys.all D.flat then (match ys.findIdx? fun y => D.eqv y x with
      | some j => some (.int (j : Nat), S)
      | none => none) else none
  | .join, .str a, [.lst ys] => match strs? ys with
    | some ss => if small ((ss.map (·.length)).sum + ss.length * a.length) then some (.str (Txt.join a ss), S) else none
    | none => none
  | .lower, .str a, [] => if small a.length then some (.str (Txt.lower a), S) else none
  | .isalpha, .str a, [] => some (.bl (Txt.isalpha a), S)
  | .isalnum, .str a, [] => some (.bl (Txt.isalnum a), S)
  | _, _, _ => none

def seeAll (S : Sto) : List D → Option (List D)
  | [] => some []
  | x :: xs => match see S x, seeAll S xs with
    | some y, some ys => some (y :: ys)
    | _, _ => none

mutual
def ev (F : CF) : E → Env → Sto → Option (D × Sto)
  | .v i, ρ, S => match ρ[i]? with
    | some (some d) => some (d, S)
    | _ => none
  | .frz i, ρ, S => match ρ[i]? with
    | some (some (.ref j)) => match S[j]? with
      | some (some xs) => some (.lst xs, S.set j none)
      | _ => none
    | _ => none
  | .c d, _, S => some (d, S)
  | .g _ d, _, S => some (d, S)
  | .op o a b, ρ, S => match ev F a ρ S with
    | none => none
    | some (x, S1) => match ev F b ρ S1 with
      | none => none
      | some (y, S2) => match see S2 x, see S2 y with
        | some x', some y' => match opD o x' y' with
          | some z => some (z, S2)
          | none => none
        | _, _ => none
  | .neg a, ρ, S => match ev F a ρ S with
    | some (.int i, S1) => some (.int (-i), S1)
    | _ => none
  | .cmp o a b, ρ, S => match ev F a ρ S with
    | none => none
    | some (x, S1) => match ev F b ρ S1 with
      | none => none
      | some (y, S2) => match see S2 x, see S2 y with
        | some x', some y' => match cmpD o x' y' with
          | some z => some (.bl z, S2)
          | none => none
        | _, _ => none
  | .chain o p a b c, ρ, S => match ev F a ρ S with
    | none => none
    | some (x, S1) => match ev F b ρ S1 with
      | none => none
      | some (y, S2) => match see S2 x, see S2 y with
        | some x', some y' => match cmpD o x' y' with
          | none => none
          | some false => some (.bl false, S2)
          | some true => match ev F c ρ S2 with
            | none => none
            | some (z, S3) => match see S3 y, see S3 z with
              | some y2, some z2 => match cmpD p y2 z2 with
                | some r => some (.bl r, S3)
                | none => none
              | _, _ => none
        | _, _ => none
  | .and a b, ρ, S => match ev F a ρ S with
    | some (.bl true, S1) => ev F b ρ S1
    | some (.bl false, S1) => some (.bl false, S1)
    | _ => none
  | .or a b, ρ, S => match ev F a ρ S with
    | some (.bl true, S1) => some (.bl true, S1)
    | some (.bl false, S1) => ev F b ρ S1
    | _ => none
  | .not a, ρ, S => match ev F a ρ S with
    | some (.bl b, S1) => some (.bl (!b), S1)
    | _ => none
  | .ite c a b, ρ, S => match ev F c ρ S with
    | some (.bl true, S1) => ev F a ρ S1
    | some (.bl false, S1) => ev F b ρ S1
    | _ => none
  | .tup es, ρ, S => match evs F es ρ S with
    | some (xs, S1) => if small xs.length then some (.tup xs, S1) else none
    | none => none
  | .lst es, ρ, S => match evs F es ρ S with
    | some (xs, S1) => if small xs.length then some (.lst xs, S1) else none
    | none => none
  | .new es, ρ, S => match evs F es ρ S with
    | some (xs, S1) => if small xs.length then mkList true xs S1 else none
    | none => none
  | .ix a i, ρ, S => match ev F a ρ S with
    | none => none
    | some (x, S1) => match ev F i ρ S1 with
      | none => none
      | some (y, S2) => match see S2 x with
        | none => none
        | some x' => match ixD x' y with
          | some z => some (z, S2)
          | none => none
  | .sl a lo hi, ρ, S => match ev F a ρ S with
    | none => none
    | some (x, S1) => match ev F lo ρ S1 with
      | none => none
      | some (l, S2) => match ev F hi ρ S2 with
        | none => none
        | some (h, S3) => match see S3 x, part? l, part? h with
          | some x', some l', some h' => if (isNonE lo || isIntD l) && (isNonE hi || isIntD h) then (match slD x' l' h' with
            | some z => some (z, S3)
            | none => none) else none
          | _, _, _ => none
  | .call f es, ρ, S => match evs F es ρ S with
    | some (xs, S1) => F f xs S1
    | none => none
  | .callK f es kes pm, ρ, S => match evs F es ρ S with
    | none => none
    | some (xs, S1) => match evs F kes ρ S1 with
      | none => none
      | some (ys, S2) => F f (prm pm (xs ++ ys)) S2
  | .bi b es, ρ, S => match evs F es ρ S with
    | some (xs, S1) => match seeAll S1 xs with
      | some ys => match biD b ys with
        | some z => some (z, S1)
        | none => none
      | none => none
    | none => none
  | .fmt a, ρ, S => match ev F a ρ S with
    | some (.str y, S1) => if small y.length then some (.str y, S1) else none
    | some (.int i, S1) => if decide (i.natAbs < 2 ^ 1900) then some (.str (toString i), S1) else none
    | _ => none
  | .js es, ρ, S => match evs F es ρ S with
    | some (xs, S1) => match strs? xs with
      | some ss => if small ((ss.map (·.length)).sum) then some (.str (catS Str.empty ss), S1) else none
      | none => none
    | none => none
  | .sset a, ρ, S => match ev F a ρ S with
    | none => none
    | some (x, S1) => match see S1 x with
      | some (.lst xs) => (match strs? xs with
        | some ss => if decide (ss.length ≤ 1000) then some (.lst ((sortS (fresh1 [] ss)).map D.str), S1) else none
        | none => none)
      | _ => none
  | .mk es, ρ, S => match evs F es ρ S with
    | some (xs, S1) => match seeAll S1 xs with
      | some ys => match biD .list ys with
        | some (.lst zs) => mkList true zs S1
        | _ => none
      | none => none
    | none => none
  | .comp mt t it elt, ρ, S => match ev F it ρ S with
    | none => none
    | some (x, S1) => match items x with
      | none => none
      | some xs => match compRun (fun d S => match setT t d (wipeT t ρ) with
          | none => none
          | some ρ' => match ev F elt ρ' S with
            | none => none
            | some (y, S') => some (some y, S')) xs [] S1 with
        | none => none
        | some (ys, S2) => mkList mt ys S2
  | .compI mt t it cond elt, ρ, S => match ev F it ρ S with
    | none => none
    | some (x, S1) => match items x with
      | none => none
      | some xs => match compRun (fun d S => match setT t d (wipeT t ρ) with
          | none => none
          | some ρ' => match ev F cond ρ' S with
            | some (.bl true, S1) => (match ev F elt ρ' S1 with
              | none => none
              | some (y, S') => some (some y, S'))
            | some (.bl false, S1) => some (none, S1)
            | _ => none) xs [] S1 with
        | none => none
        | some (ys, S2) => mkList mt ys S2
  | .comp2 mt t it t2 it2 elt, ρ, S => match ev F it ρ S with
    | none => none
    | some (x, S1) => match items x with
      | none => none
      | some xs => match comp2Run (fun d S => match setT t d (wipeT t (wipeT t2 ρ)) with
          | none => none
          | some ρ' => match ev F it2 ρ' S with
            | none => none
            | some (y, S') => match items y with
              | none => none
              | some ys => some (ys, (fun e S => match setT t2 e (wipeT t2 ρ') with
                | none => none
                | some ρ2 => match ev F elt ρ2 S with
                  | none => none
                  | some (z, S') => some (some z, S')), S')) xs [] S1 with
        | none => none
        | some (ys, S2) => mkList mt ys S2
  | .bits a, ρ, S => match ev F a ρ S with
    | some (.int i, S1) => some (.int (Builtin.Int.intBits i : Nat), S1)
    | _ => none
  | .meth m o es, ρ, S => match ev F o ρ S with
    | none => none
    | some (x, S1) => if (see S1 x).isSome then (match evs F es ρ S1 with
      | none => none
      | some (xs, S2) => meD m x xs S2) else none
  | .isi e tys, ρ, S => match ev F e ρ S with
    | some (x, S1) => match see S1 x with
      | some x' => some (.bl (tys.any (isTy x')), S1)
      | none => none
    | none => none
  | .rng a b, ρ, S => match ev F a ρ S with
    | some (.int i, S1) => match ev F b ρ S1 with
      | some (.int j, S2) => if decide (-(2 ^ 62) ≤ i) && decide (i < 2 ^ 62) && decide (-(2 ^ 62) ≤ j) && decide (j < 2 ^ 62) then
          some (.lst ((List.range (j - i).toNat).map fun (k : Nat) => .int (i + k)), S2) else none
      | _ => none
    | _ => none
  | .zip a b, ρ, S => match ev F a ρ S with
    | some (.lst xs, S1) => match ev F b ρ S1 with
      | some (.lst ys, S2) => if xs.length = ys.length then some (.lst ((xs.zip ys).map fun p => .tup [p.1, p.2]), S2) else none
      | _ => none
    | _ => none
  | .zipT a b, ρ, S => match ev F a ρ S with
    | some (.tup xs, S1) => match ev F b ρ S1 with
      | some (.lst ys, S2) => if xs.length = ys.length then some (.lst ((xs.zip ys).map fun p => .tup [p.1, p.2]), S2) else none
      | _ => none
    | _ => none
  | .enum a, ρ, S => match ev F a ρ S with
    | some (.lst xs, S1) => some (.lst (((List.range xs.length).zip xs).map fun p => .tup [.int (p.1 : Nat), p.2]), S1)
    | _ => none
def evs (F : CF) : Es → Env → Sto → Option (List D × Sto)
  | .nil, _, S => some ([], S)
  | .cons e es, ρ, S => match ev F e ρ S with
    | none => none
    | some (x, S1) => match evs F es ρ S1 with
      | none => none
      | some (xs, S2) => some (x :: xs, S2)
  | .star e es, ρ, S => match ev F e ρ S with
    | none => none
    | some (x, S1) => match see S1 x with
      | some (.lst ys) => (match evs F es ρ S1 with
        | none => none
        | some (xs, S2) => some (ys ++ xs, S2))
      | some (.tup ys) => (match evs F es ρ S1 with
        | none => none
        | some (xs, S2) => some (ys ++ xs, S2))
      | _ => none
end

inductive Out where
  | nx (ρ : Env) | rt (d : D) | bk (ρ : Env) | ct (ρ : Env)

def forRun (t : Tg) (body : Env → Sto → Option (Out × Sto)) : List D → Env → Sto → Option (Out × Sto)
  | [], ρ, S => some (.nx ρ, S)
  | d :: ds, ρ, S => match setT t d ρ with
    | none => none
    | some ρ1 => match body ρ1 S with
      | none => none
      | some (.nx ρ2, S1) => forRun t body ds ρ2 S1
      | some (.ct ρ2, S1) => forRun t body ds ρ2 S1
      | some (.bk ρ2, S1) => some (.nx ρ2, S1)
      | some (.rt d, S1) => some (.rt d, S1)
def whRun (test : Env → Sto → Option (D × Sto)) (body : Env → Sto → Option (Out × Sto)) : Nat → Env → Sto → Option (Out × Sto)
  | 0, _, _ => none
  | n + 1, ρ, S => match test ρ S with
    | some (.bl false, S1) => some (.nx ρ, S1)
    | some (.bl true, S1) => (match body ρ S1 with
      | none => none
      | some (.nx ρ2, S2) => whRun test body n ρ2 S2
      | some (.ct ρ2, S2) => whRun test body n ρ2 S2
      | some (.bk ρ2, S2) => some (.nx ρ2, S2)
      | some (.rt d, S2) => some (.rt d, S2))
    | _ => none

mutual
def ex (F : CF) (w : Nat) : St → Env → Sto → Option (Out × Sto)
  | .asg t e, ρ, S => match ev F e ρ S with
    | none => none
    | some (x, S1) => match setT t x ρ with
      | none => none
      | some ρ' => some (.nx ρ', S1)
  | .par is es, ρ, S => match evs F es ρ S with
    | none => none
    | some (xs, S1) => if xs.length = is.length then some (.nx ((is.zip xs).foldl (fun r p => r.set p.1 (some p.2)) ρ), S1) else none
  | .put o i e, ρ, S => match ev F e ρ S with
    | none => none
    | some (x, S1) => match ev F o ρ S1 with
      | some (.ref l, S2) => (match ev F i ρ S2 with
        | some (.int k, S3) => (match S3[l]? with
          | some (some xs) => (match L2.ixN xs.length k with
            | some j => some (.nx ρ, S3.set l (some (xs.set j x)))
            | none => none)
          | _ => none)
        | _ => none)
      | _ => none
  | .ex e, ρ, S => match ev F e ρ S with
    | none => none
    | some (_, S1) => some (.nx ρ, S1)
  | .ret e, ρ, S => match ev F e ρ S with
    | none => none
    | some (x, S1) => some (.rt x, S1)
  | .ifs c a b, ρ, S => match ev F c ρ S with
    | some (.bl true, S1) => exs F w a ρ S1
    | some (.bl false, S1) => exs F w b ρ S1
    | _ => none
  | .for t it b, ρ, S => match ev F it ρ S with
    | none => none
    | some (x, S1) => match items x with
      | none => none
      | some xs => forRun t (fun ρ S => exs F w b ρ S) xs ρ S1
  | .wh c b, ρ, S => whRun (fun ρ S => ev F c ρ S) (fun ρ S => exs F w b ρ S) w ρ S
  | .never, _, _ => none
  | .frz i, ρ, S => match ρ[i]? with
    | some (some (.ref j)) => match S[j]? with
      | some (some xs) => some (.nx (ρ.set i (some (.lst xs))), S.set j none)
      | _ => none
    | _ => none
  | .pass, ρ, S => some (.nx ρ, S)
  | .brk, ρ, S => some (.bk ρ, S)
  | .cnt, ρ, S => some (.ct ρ, S)
def exs (F : CF) (w : Nat) : Ss → Env → Sto → Option (Out × Sto)
  | .nil, ρ, S => some (.nx ρ, S)
  | .cons s ss, ρ, S => match ex F w s ρ S with
    | none => none
    | some (.nx ρ', S1) => exs F w ss ρ' S1
    | some o => some o
end

/-- a def: how many parameters, how many slots, its body -/
structure Fn where
  ar : Nat
  sl : Nat
  body : Ss
/-- behind a def: places that it made are forgotten, if nothing that goes on speaks of them -/
def closedS (n : Nat) (S : Sto) : Bool := S.all fun o => match o with
  | some xs => D.unders n xs
  | none => true
def leave (n : Nat) (d : D) (S : Sto) : Sto :=
  if D.pure d && closedS n (S.take n) then S.take n else S
def run (T : List Fn) (w : Nat) : Nat → CF
  | 0 => fun _ _ _ => none
  | n + 1 => fun f ds S => match T[f]? with
    | none => none
    | some fn => if ds.length = fn.ar then (match exs (run T w n) w fn.body (ds.map some ++ List.replicate (fn.sl - fn.ar) none) S with
        | some (.rt d, S1) => some (d, leave S.length d S1)
        | some (.nx _, S1) => some (.non, leave S.length .non S1)
        | _ => none) else none
end Iv

set_option Elab.async false
set_option linter.all false
set_option maxRecDepth 100000
set_option maxHeartbeats 4000000
namespace Iv
open PySem PySem.W PySem.Calls PyProof.Rows PySem.SeqAt
variable {prog : Program} {w : World} {A : Around} {E : Value → Shared → Prop} {s : Shared}
theorem tup_lt_call {Q : Value → Shared → Prop} {l b : Addr} {vs ws : Array Value} {e r : Nat → Bool} (hl : s.heap.IsTuple l vs) (hb : s.heap.IsTuple b ws)
    (he : ∀ j (h1 : j < vs.size) (h2 : j < ws.size), EqAt A.in1 s vs[j] ws[j] (e j)) (hr : ∀ j (h1 : j < vs.size) (h2 : j < ws.size), e j = false → RcLt A.in1 s vs[j] ws[j] (r j))
    (h : Q (.bool (firstLt e r (decide (vs.size < ws.size)) (List.range (min vs.size ws.size)))) s) : wpAny (model prog w) A (call (.builtin "tuple.__lt__") [.ref l, .ref b]) Q E s := by
  obtain ⟨⟨c1, d1, da1, s1⟩, o1, k1, m1, e1⟩ := id hl
  obtain ⟨⟨c2, d2, da2, s2⟩, o2, k2, m2, e2⟩ := id hb
  simp only at k1 e1 k2 e2
  subst k1 e1 k2 e2
  exact call_meets F.slot_tuple_lt ⟨_, o1, rfl⟩ F.entry_tuple_lt (F.args_tuple_lt_2 _ _) (tuple_ltAt l b vs ws m1 m2 d1 d2 s1 s2 e r)
    ⟨o1, o2, he, hr, h⟩
theorem oneLt_tup {xs ys : List PyData} {a b : Value} {as bs : List Addr} {Q : Bool → Shared → Prop} (ra : Reads s.heap a (.tuple xs) as) (rb : Reads s.heap b (.tuple ys) bs) (h : alike (.tuple xs) (.tuple ys) = true)
    (hu : A.units + min (PyData.tuple xs).depth (PyData.tuple ys).depth < cLine) (hq : Q (dataLt (.tuple xs) (.tuple ys)) s) : wpAny (model prog w) A (oneLt' true a b) Q E s := by
  have hal : alikeAll xs ys = true := by simpa [alike] using h
  cases ra with
  | @tuple l o vs n _ as₁ h1 h2 h3 h4 =>
    cases rb with
    | @tuple l' o' vs' n' _ bs₁ k1 k2 k3 k4 =>
      have n1 : vs.size = xs.length := by simpa using SeqAt.ReadsAll.length _ _ _ h4
      have n2 : vs'.size = ys.length := by simpa using SeqAt.ReadsAll.length _ _ _ k4
      rw [oneLt'_eq]
      simp only [if_true]
      rw [dataLt_tuple, ← firstLt_toks xs ys hal, ← n1, ← n2] at hq
      refine wpAny_bind (wpAny_cRoomFor (SeqAt.room_here hu) ?_)
      refine wpAny_bind (wpAny_callSpecialIfBound?_slot (T := "tuple") ⟨_, h1, h2⟩ F.slot_tuple_lt (tup_lt_call (e := SeqAt.pairEq xs ys) (r := fun j => dataLt (xs.getD j .none) (ys.getD j .none)) ⟨_, h1, h2, _, h3⟩ ⟨_, k1, k2, _, k3⟩ (fun j j1 j2 => ?_) (fun j j1 j2 hj => ?_) ?_))
      · have := eqAt_alikeAll xs ys A.in1 s vs.toList vs'.toList _ _ h4 k4 hal (SeqAt.room_in hu) j (by simpa using j1) (by simpa using j2)
        simpa using this
      · have := rcLt_alikeAll xs ys A.in1 s vs.toList vs'.toList _ _ h4 k4 hal (SeqAt.room_in hu) j (by simpa using j1) (by simpa using j2) hj
        simpa using this
      · exact wpAny_truthy_bool hq
theorem mapM_res {α β : Type} {M : Model} {f : α → Sem β} : ∀ (l : List α) (ms : List β) {Q : List β → Shared → Prop}, l.length = ms.length → (∀ (i : Nat) (v : α) (m : β), l[i]? = some v → ms[i]? = some m → ∀ (Q' : β → Shared → Prop), Q' m s → wpAny M A (f v) Q' E s) → Q ms s → wpAny M A (l.mapM f) Q E s
  | [], [], _, _, _, h => by rw [List.mapM_nil]; exact wpAny_pure h
  | [], _ :: _, _, hl, _, _ => by cases hl
  | _ :: _, [], _, hl, _, _ => by cases hl
  | x :: l, m :: ms, Q, hl, hf, h => by
    rw [List.mapM_cons]
    exact wpAny_bind (hf 0 x m rfl rfl _ (wpAny_bind (mapM_res l ms (Q := fun bs s' => wpAny M A (pure (m :: bs)) Q E s') (by simpa using hl) (fun i v m h1 h2 => hf (i + 1) v m (by simpa using h1) (by simpa using h2)) (wpAny_pure h))))

theorem first_reads {M : Model} {v : Value} {xs : List PyData} {as : List Addr} (r : Reads s.heap v (.tuple xs) as) : ∃ m : Option Value, (xs = [] → m = none) ∧ ∀ (E' : Value → Shared → Prop) (Q' : Option Value → Shared → Prop), Q' m s → wpAny M A (firstOfTuple' v) Q' E' s := by
  cases r with
  | @tuple l o vs n _ as₁ h1 h2 h3 h4 =>
    refine ⟨vs[0]?, fun e => ?_, fun E' Q' hq => ?_⟩
    · subst e
      have n1 : vs.size = ([] : List PyData).length := by simpa using SeqAt.ReadsAll.length _ _ _ h4
      simpa using n1
    · rw [kas_first_eq]
      refine wpAny_bind (Looks.here (show Looks M s.heap (typeOf (.ref l)) o.cls from (Looks.ld h1).andThen .now) ?_)
      rw [h2, if_neg (by first | decide | simp)]
      exact wpAny_bind (listItems_at h1 h3 (wpAny_pure hq))
theorem firsts_reads {M : Model} : ∀ {vs : List Value} {ds : List PyData}, EachIs (fun v d => ∃ as, Reads s.heap v d as) vs ds → (∀ d, d ∈ ds → ∃ xs, d = .tuple xs) →
    ∃ ms : List (Option Value), vs.length = ms.length ∧ (∀ r, ds = .tuple [] :: r → ∃ m, ms = none :: m) ∧ ∀ (i : Nat) (v : Value) (m : Option Value), vs[i]? = some v → ms[i]? = some m → ∀ (E' : Value → Shared → Prop) (Q' : Option Value → Shared → Prop), Q' m s → wpAny M A (firstOfTuple' v) Q' E' s
  | _, _, .nil, _ => ⟨[], rfl, fun _ e => (nomatch e), fun i v m h _ => by simp at h⟩
  | _, _, .cons (b := d) ⟨as, r⟩ t, ht => by
    obtain ⟨ms, h1, _, h3⟩ := firsts_reads (M := M) t fun d hd => ht d (List.mem_cons_of_mem _ hd)
    obtain ⟨xs, rfl⟩ := ht d (List.mem_cons_self ..)
    obtain ⟨m, k1, k2⟩ := first_reads (M := M) (A := A) r
    refine ⟨m :: ms, by rw [List.length_cons, List.length_cons, h1], fun r e => ?_, fun i v m' hv hm E' Q' hq => ?_⟩
    · injection e with e1 e2
      injection e1 with e1
      exact ⟨ms, by rw [k1 e1]⟩
    · cases i with
      | zero => simp at hv hm; subst hv hm; exact k2 E' Q' hq
      | succ i => exact h3 i v m' (by simpa using hv) (by simpa using hm) E' Q' hq
theorem kind_tups0 {vs : List Value} {ds : List PyData} {M : Model} (e : EachIs (fun v d => ∃ as, Reads s.heap v d as) vs ds) (ht : ∀ d, d ∈ ds → ∃ xs, d = .tuple xs) (h0 : ∃ r, ds = .tuple [] :: r) {Q : SortKind → Shared → Prop} (h : Q oneType' s) :
    wpAny M A (keyKind' vs.toArray) Q E s := by
  obtain ⟨ms, h1, h2, h3⟩ := firsts_reads (M := M) (A := A) e ht
  obtain ⟨r, h0⟩ := h0
  obtain ⟨m, rfl⟩ := h2 r h0
  have hT : ∀ v ∈ vs, Looks M s.heap (typeOf v) (Value.type "tuple") := fun v hv => by
    obtain ⟨d, hd, as, r⟩ := e.left v hv
    obtain ⟨xs, rfl⟩ := ht d hd
    exact looks_reads r
  rw [keyKind'_eq, List.mapM_toArray, map_eq_pure_bind]
  refine wpAny_bind (wpAny_bind (mapM_res vs (none :: m) h1 (fun i v m' k1 k2 Q' hq => h3 i v m' k1 k2 _ Q' hq) (wpAny_pure ?_)))
  rw [if_neg (by simp), if_neg (by simp)]
  rw [oneTypeOnly'_eq, List.mapM_toArray, map_eq_pure_bind]
  refine wpAny_bind (wpAny_bind (wpAny_bind (kas_mapM (r := Value.type "tuple") _ (fun v hv Q' hq => (hT v hv).here hq) (wpAny_pure ?_))))
  have hall : ((List.map (fun _ => Value.type "tuple") vs).toArray.all fun x => x == Value.type "tuple") = true := by
    simp only [List.all_toArray, List.all_map, List.all_eq_true]
    intro _ _
    rfl
  obtain ⟨v, vs', rfl⟩ : ∃ v vs', vs = v :: vs' := by
    cases vs with
    | nil => cases h1
    | cons v vs' => exact ⟨v, vs', rfl⟩
  have h0 : (List.map (fun _ => Value.type "tuple") (v :: vs')).toArray[0]? = some (Value.type "tuple") := by simp
  rw [h0]
  simp only [hall, if_true]
  exact wpAny_pure (wpAny_pure h)
/-- tuples, the first of them empty, can be sorted -/
theorem sorts_tups0 {vs : List Value} {ds : List PyData} (e : EachIs (fun v d => ∃ as, Reads s.heap v d as) vs ds) (hal : AllAlike ds) (ht : ∀ d, d ∈ ds → ∃ xs, d = .tuple xs) (h0 : ∃ r, ds = .tuple [] :: r) (hu : ∀ d, d ∈ ds → A.units + d.depth < cLine) : SortsAt prog w A s (dataKind s.heap ds) vs := by
  have room : ∀ {d d' : PyData}, d ∈ ds → A.units + min d.depth d'.depth < cLine := fun {d d'} hd => Nat.lt_of_le_of_lt (Nat.add_le_add_left (Nat.min_le_left _ _) _) (hu d hd)
  refine ⟨fun v hv => ?_, oneType', ?_, fun h2 E Q hq => kind_tups0 e ht h0 hq⟩
  · obtain ⟨d, hd, as, r⟩ := e.left v hv
    exact ⟨_, dataKind_some hal hd r⟩
  · intro E x y a b Q ha hb hq
    obtain ⟨d, as, hd, ra, rfl⟩ := dataKind_inv ha
    obtain ⟨d', as', hd', rb, rfl⟩ := dataKind_inv hb
    obtain ⟨xs, rfl⟩ := ht d hd
    obtain ⟨ys, rfl⟩ := ht d' hd'
    rw [keyLt'_oneType]
    exact oneLt_tup ra rb (hal _ hd _ hd') (room hd) hq
theorem lt_str_total {a b : Str} (h1 : PySem.W.dataLt (.str a) (.str b) = false) (h2 : PySem.W.dataLt (.str b) (.str a) = false) : a = b := by
  have q := (PyProof.Rows.listOrd PyProof.Rows.itemOrd).total (PySem.W.keyToks (.str a)) (PySem.W.keyToks (.str b)) h1 h2
  simp only [PySem.W.keyToks] at q
  injection q with q _
  injection q with q
  exact PySem.W.str_of_cps q
theorem sortS_asc (l : List Str) : (sortS l).Pairwise fun a b => (!PySem.W.dataLt (.str b) (.str a)) = true := by
  have T := PySem.W.sortLe_total (PyProof.Rows.listOrd PyProof.Rows.itemOrd) false fun b : Str => PySem.W.keyToks (.str b)
  exact List.pairwise_mergeSort (le := fun a b : Str => !PySem.W.dataLt (.str b) (.str a)) (fun a b c h1 h2 => T.trans a b c h1 h2) (fun a b => (Bool.or_eq_true _ _).mpr (T.total a b)) _
theorem sortS_perm {l m : List Str} (h : l.Perm m) : sortS l = sortS m := by
  refine List.Perm.eq_of_pairwise (le := fun a b => (!PySem.W.dataLt (.str b) (.str a)) = true) (fun a b _ _ h1 h2 => ?_) (sortS_asc l) (sortS_asc m) ?_
  · rw [Bool.not_eq_true'] at h1 h2
    exact lt_str_total h2 h1
  · exact (List.mergeSort_perm _ _).trans (h.trans (List.mergeSort_perm _ _).symm)
theorem sortS_is (l : List Str) : (sortS l).Perm l := List.mergeSort_perm _ _
section
variable {P : Program}
theorem each_strs {h : Heap} : ∀ {vs : List Value} {ys : List Str}, StrsAre vs ys → PySem.W.EachIs (fun v d => ∃ as, PySem.Reads h v (PyData.str d) as) vs ys
  | _, _, .nil => .nil
  | _, _, .cons n t r => .cons ⟨_, .str _ _⟩ (each_strs r)
theorem each_strR : ∀ {vs : List Value} {ys : List Str}, StrsAre vs ys → PySem.W.EachIs (fun v d => ∃ t, v = Value.str d t) vs ys
  | _, _, .nil => .nil
  | _, _, .cons n t r => .cons ⟨_, rfl⟩ (each_strR r)
theorem strs_each : ∀ {vs : List Value} {ys : List Str}, PySem.W.EachIs (fun v d => ∃ t, v = Value.str d t) vs ys → StrsAre vs ys
  | _, _, .nil => .nil
  | _, _, .cons (b := n) ⟨t, e⟩ r => by subst e; exact .cons n t (strs_each r)
theorem strs_alike (ys : List Str) : PySem.W.AllAlike (ys.map PyData.str) := PySem.W.AllAlike.of (enc := PyData.str) fun _ _ => by simp [PySem.W.alike]
theorem strs_sortable (ys : List Str) : PySem.W.Sortable (ys.map PyData.str) := PySem.W.Sortable.others (enc := PyData.str) fun _ => ⟨by simp, fun xs => by simp⟩
theorem sorts_strs {vs : List Value} {ys : List Str} (hv : StrsAre vs ys) (hu : A.units < cLine) : PySem.W.SortsAt P w A s (PySem.W.dataKind s.heap (ys.map PyData.str)) vs :=
  PySem.W.SortsAt.data (PySem.W.each_map (R := fun v d => ∃ as, PySem.Reads s.heap v d as) PyData.str (each_strs hv)) (strs_alike ys) (strs_sortable ys) fun d hd => by
    obtain ⟨y, _, rfl⟩ := List.mem_map.mp hd
    simp only [PyData.depth]
    omega
theorem sorted_out {h' : Heap} {vs : List Value} {ys : List Str} (hv : StrsAre vs ys) : StrsAre (PySem.W.sortVals (PySem.W.dataKind h' (ys.map PyData.str)) false vs vs) (sortS ys) := by
  have q := PySem.W.sortVals_data (h' := h') (R := fun v d => ∃ t, v = Value.str d t) (enc := PyData.str) false (each_strR hv) (each_strs hv) (strs_alike ys)
  rw [PySem.W.dataLe_eq] at q
  exact strs_each q
/-- the items of a tuple, gathered -/
theorem collect_tup {l : Addr} {vs : List Value} {Q : List Value → Shared → Prop} (hl : s.heap.IsTuple l vs.toArray)
    (h : Q vs { s with heap := (s.heap.push (seqObj "list" #[] 0)).update s.heap.objs.size (Obj.mapSeq (· ++ vs.toArray)) }) (hsz : vs.length ≤ sizeLine) :
    wpAny (model P w) A (collect (.ref l)) Q E s := by
  obtain ⟨o, ho, hc, n, hd⟩ := id hl
  unfold collect
  refine wpAny_bind (wpAny_runValue (codeAny_builtin entry_proto_collect' ?_))
  show wpAny _ _ (do again (.builtin "list.__iadd__" ⟨[← newList [], .ref l], []⟩)) _ _ s
  refine wpAny_bind (wpAny_newList (wpAny_pure ⟨Code.quiet_builtin _ (by decide +kernel), codeAny_builtin entry_list_iadd' ?_⟩))
  show wpAny _ _ (Builtin.List.listExtendWith (.ref s.heap.objs.size) (.ref l) (.ref s.heap.objs.size)) _ _ { s with heap := s.heap.push (seqObj "list" #[] 0) }
  unfold Builtin.List.listExtendWith
  have ho' : (s.heap.push (seqObj "list" #[] 0)).get? l = some o := Heap.get?_push_of_some _ ho
  refine wpAny_bind (wpAny_typeOf (T := "tuple") ⟨o, ho', hc⟩ ?_)
  have ht : (Value.type "tuple" == Value.type "tuple") = true := by rfl
  rw [if_pos (by rw [ht]; simp)]
  refine wpAny_bind (listItems_at ho' hd ?_)
  refine wpAny_bind (listItems_at (xs := #[]) (n := 0) (Heap.get?_push_size _ rfl) rfl ?_)
  rw [if_neg (by simp)]
  refine wpAny_bind (listUpdate_at (xs := #[]) (n := 0) (Heap.get?_push_size _ rfl) rfl ?_ (Nat.zero_le _) (by show (#[] ++ vs.toArray).size ≤ sizeLine + 1; simp only [Array.size_append, List.size_toArray, List.length_nil]; omega))
  refine wpAny_pure ?_
  show wpAny (model P w) A (do
      let o ← load s.heap.objs.size
      match o.data with
      | .seq xs _ => pure xs.toList
      | _ => unsupported "internal:collect") Q E { s with heap := (s.heap.push (seqObj "list" #[] 0)).update s.heap.objs.size (Obj.mapSeq (· ++ vs.toArray)) }
  refine wpAny_bind (wpAny_load (get?_update_seq (Heap.get?_push_size _ rfl) _) ?_)
  show wpAny _ _ (pure ((#[] : Array Value) ++ vs.toArray).toList) Q E _
  rw [show ((#[] : Array Value) ++ vs.toArray).toList = vs by simp]
  exact wpAny_pure h
theorem sorted_tup {l : Addr} {vs : List Value} {ys : List Str} {Q : Value → Shared → Prop} (hl : s.heap.IsTuple l vs.toArray) (hv : StrsAre vs ys) (hL : ys.length ≤ 1000) (hu : A.units + 3 < cLine)
    (h : ∀ out : List Value, StrsAre out (sortS ys) → Q (.ref (s.heap.objs.size + 1)) { s with heap := sortedAll s.heap vs out.toArray }) : wpAny (model P w) A (call (.builtin "sorted") [.ref l]) Q E s := by
  have hvl := hv.length
  have hz : vs.length ≤ sizeLine := by rw [sizeLine_eq]; omega
  refine Calls.call_function_entry kind_sorted plain_sorted entry_sorted (args_sorted1 _) ?_
  unfold Builtin.«sorted»
  refine wpAny_bind (m := checkCount "sorted" 1 1 _) (wpAny_pure ?_)
  refine wpAny_bind (collect_tup hl ?_ hz)
  refine wpAny_bind (wpAny_newList ?_ hz)
  have hsz : ((s.heap.push (seqObj "list" #[] 0)).update s.heap.objs.size (Obj.mapSeq (· ++ vs.toArray))).objs.size = s.heap.objs.size + 1 := by
    rw [Heap.size_update, size_push']
  show wpAny _ _ _ _ _ { s with heap := PySem.W.copyHeap s.heap vs }
  rw [hsz]
  refine wpAny_bind (wpAny_holding (wpAny_call_entry slot_list_sort ⟨_, PySem.W.copyHeap_at s.heap vs, rfl⟩ entry_list_sort (PySem.W.list_sort_vals (s := { s with heap := PySem.W.copyHeap s.heap vs }) (PySem.W.copyHeap_at s.heap vs)
    (sorts_strs (s := { s with heap := PySem.W.sortingHeap (PySem.W.copyHeap s.heap vs) (s.heap.objs.size + 1) vs }) hv (by show A.units + 1 + 1 < cLine; omega)) hz ⟨_, rfl, ?_⟩) (args_list_sort _)))
  exact wpAny_pure ⟨_, rfl, h _ (sorted_out hv)⟩
end
end Iv

set_option Elab.async false
set_option linter.all false
set_option maxRecDepth 100000
namespace Iv
open PySem PySem.Spec PyProof.Rows L2

/-- where the places lie; lists that are being made -/
structure Mu where
  ps : List Addr
  z : List Addr
def Live0 (S : Sto) (μ : Mu) (a : Addr) : Prop := ∃ (i : Nat) (xs : List D), S[i]? = some (some xs) ∧ μ.ps[i]? = some a
def Live (S : Sto) (μ : Mu) (a : Addr) : Prop := Live0 S μ a ∨ a ∈ μ.z
/-- a list of the written part -/
def KL (K : PySem.W.Frag) (a : Addr) (xs : List V) : Prop :=
  ∃ (its : List Value) (n : Nat), K.lookup a = some { cls := .type "list", data := .seq its.toArray n } ∧ its.length ≤ sizeLine ∧ Vals xs its
/-- a list to be read, of the plain make -/
def SqP (K : PySem.W.Frag) (H : Hp) (a : Addr) (xs : List V) : Prop := Rd H a (.lst xs) ∨ KL K a xs
theorem SqP.l {K : PySem.W.Frag} {H : Hp} {a : Addr} {xs : List V} (h : SqP K H a xs) : SqL K H a xs := by
  rcases h with h | ⟨its, n, hk, hz, r⟩
  · exact .inl h
  · exact .inr ⟨_, its.toArray, n, hk, rfl, rfl, rfl, by simpa using hz, by simpa using r⟩
theorem SqP.of {K : PySem.W.Frag} {H : Hp} {a : Addr} {xs : List V} (h : H a = some (.lst xs)) : SqP K H a xs := .inl (.inl h)
theorem SqP.plain {X : Cx} {pins : List (Addr × Obj)} {σ : L2.St} {H : Hp} {s : Shared} {a : Addr} {xs : List V} (I : Inv X pins σ H s) (h : SqP X.K H a xs) :
    xs.length ≤ sizeLine ∧ ∃ (its : List Value) (n : Nat), Vals xs its ∧ xs.length = its.length ∧ s.heap.get? a = some { cls := .type "list", data := .seq its.toArray n } := by
  rcases h with h | ⟨its, n, hk, hz, r⟩
  · obtain ⟨z, its, n, r, e⟩ := h.ok I.hok
    exact ⟨z, its, n, r, r.length, e⟩
  · exact ⟨by rw [r.length]; exact hz, its, n, r, r.length, I.kIn a _ hk⟩

mutual
def Rep (K : PySem.W.Frag) (S : Sto) (μ : Mu) (H : Hp) : D → V → Prop
  | .non, v => v = .non
  | .bl b, v => v = .bl b
  | .int i, v => v = .int i
  | .str x, v => v = .str x
  | .tup ds, v => ∃ (a : Addr) (vs : List V), v = .ref a ∧ SqT K H a vs ∧ Reps K S μ H ds vs
  | .lst ds, v => ∃ (a : Addr) (vs : List V), v = .ref a ∧ ((Rd H a (.lst vs) ∧ ¬ Live S μ a) ∨ KL K a vs) ∧ Reps K S μ H ds vs
  | .ref i, v => ∃ a, v = .ref a ∧ μ.ps[i]? = some a
def Reps (K : PySem.W.Frag) (S : Sto) (μ : Mu) (H : Hp) : List D → List V → Prop
  | [], vs => vs = []
  | d :: ds, vs => ∃ v r, vs = v :: r ∧ Rep K S μ H d v ∧ Reps K S μ H ds r
end

structure Good (K : PySem.W.Frag) (S : Sto) (μ : Mu) (H : Hp) : Prop where
  len : μ.ps.length = S.length
  at_ : ∀ (i : Nat) (xs : List D), S[i]? = some (some xs) → ∃ a vs, μ.ps[i]? = some a ∧ H a = some (.lst vs) ∧ Reps K S μ H xs vs
  inj : ∀ (i j : Nat) (xs ys : List D) (a : Addr), S[i]? = some (some xs) → S[j]? = some (some ys) → μ.ps[i]? = some a → μ.ps[j]? = some a → i = j
  zl : ∀ a ∈ μ.z, ∃ vs, H a = some (.lst vs)
  zn : ∀ a ∈ μ.z, ¬ Live0 S μ a

/-- what stands is kept, but for lists that may change -/
structure EvoW (S : Sto) (μ : Mu) (H : Hp) (S' : Sto) (μ' : Mu) (H' : Hp) : Prop where
  mu : ∀ (i : Nat) (a : Addr), μ.ps[i]? = some a → μ'.ps[i]? = some a
  old : ∀ a o, H a = some o → ¬ Live S μ a → H' a = some o ∧ ¬ Live S' μ' a
structure Evo (S : Sto) (μ : Mu) (H : Hp) (S' : Sto) (μ' : Mu) (H' : Hp) : Prop where
  w : EvoW S μ H S' μ' H'
  z : μ'.z = μ.z
  hold : ∀ a o, a ∈ μ.z → H a = some o → H' a = some o

theorem EvoW.refl (S : Sto) (μ : Mu) (H : Hp) : EvoW S μ H S μ H := ⟨fun _ _ h => h, fun _ _ h n => ⟨h, n⟩⟩
theorem EvoW.trans {S μ H S1 μ1 H1 S2 μ2 H2} (a : EvoW S μ H S1 μ1 H1) (b : EvoW S1 μ1 H1 S2 μ2 H2) : EvoW S μ H S2 μ2 H2 :=
  ⟨fun i x h => b.mu i x (a.mu i x h), fun x o h n => let ⟨h1, n1⟩ := a.old x o h n; b.old x o h1 n1⟩
theorem Evo.refl (S : Sto) (μ : Mu) (H : Hp) : Evo S μ H S μ H := ⟨EvoW.refl _ _ _, rfl, fun _ _ _ h => h⟩
theorem Evo.trans {S μ H S1 μ1 H1 S2 μ2 H2} (a : Evo S μ H S1 μ1 H1) (b : Evo S1 μ1 H1 S2 μ2 H2) : Evo S μ H S2 μ2 H2 :=
  ⟨a.w.trans b.w, b.z.trans a.z, fun x o h q => b.hold x o (by rw [a.z]; exact h) (a.hold x o h q)⟩

section
variable {K : PySem.W.Frag} {S S' : Sto} {μ μ' : Mu} {H H' : Hp}

theorem Good.live (g : Good K S μ H) {a : Addr} (h : Live S μ a) : ∃ vs, H a = some (.lst vs) := by
  rcases h with ⟨i, xs, e, m⟩ | h
  · obtain ⟨b, vs, m', hb, _⟩ := g.at_ i xs e
    rw [m] at m'; cases m'
    exact ⟨vs, hb⟩
  · exact g.zl a h
theorem Good.notLive (g : Good K S μ H) {a : Addr} (h : ∀ vs, H a ≠ some (.lst vs)) : ¬ Live S μ a := fun l => by
  obtain ⟨vs, e⟩ := g.live l
  exact h vs e
theorem rdT (g : Good K S μ H) (e : EvoW S μ H S' μ' H') {a : Addr} {vs : List V} (h : Rd H a (.tup vs)) : Rd H' a (.tup vs) := by
  rcases h with h | ⟨o, h⟩
  · exact .inl (e.old a _ h (g.notLive fun ws q => by rw [h] at q; cases q)).1
  · exact .inr ⟨o, (e.old a _ h (g.notLive fun ws q => by rw [h] at q; cases q)).1⟩
theorem sqT_mono (g : Good K S μ H) (e : EvoW S μ H S' μ' H') {a : Addr} {vs : List V} (h : SqT K H a vs) : SqT K H' a vs := by
  rcases h with h | h
  · exact .inl (rdT g e h)
  · exact .inr h
theorem rdL (e : EvoW S μ H S' μ' H') {a : Addr} {vs : List V} (h : Rd H a (.lst vs)) (n : ¬ Live S μ a) : Rd H' a (.lst vs) ∧ ¬ Live S' μ' a := by
  rcases h with h | ⟨o, h⟩
  · exact ⟨.inl (e.old a _ h n).1, (e.old a _ h n).2⟩
  · exact ⟨.inr ⟨o, (e.old a _ h n).1⟩, (e.old a _ h n).2⟩
mutual
theorem Rep.mono (g : Good K S μ H) (e : EvoW S μ H S' μ' H') : ∀ {d : D} {v : V}, Rep K S μ H d v → Rep K S' μ' H' d v
  | .non, _, h => h
  | .bl _, _, h => h
  | .int _, _, h => h
  | .str _, _, h => h
  | .tup ds, _, ⟨a, vs, e1, q, r⟩ => ⟨a, vs, e1, sqT_mono g e q, Reps.mono g e r⟩
  | .lst ds, _, ⟨a, vs, e1, q, r⟩ => ⟨a, vs, e1, q.elim (fun z => .inl (rdL e z.1 z.2)) .inr, Reps.mono g e r⟩
  | .ref i, _, ⟨a, e1, m⟩ => ⟨a, e1, e.mu i a m⟩
theorem Reps.mono (g : Good K S μ H) (e : EvoW S μ H S' μ' H') : ∀ {ds : List D} {vs : List V}, Reps K S μ H ds vs → Reps K S' μ' H' ds vs
  | [], _, h => h
  | d :: ds, _, ⟨v, r, e1, h1, h2⟩ => ⟨v, r, e1, Rep.mono g e h1, Reps.mono g e h2⟩
end
theorem Reps.length : ∀ {ds : List D} {vs : List V}, Reps K S μ H ds vs → ds.length = vs.length
  | [], _, h => by cases (show _ = [] from h); rfl
  | d :: ds, _, ⟨v, r, e1, _, h2⟩ => by rw [e1, List.length_cons, List.length_cons, Reps.length h2]
theorem Reps.append : ∀ {ds es : List D} {vs ws : List V}, Reps K S μ H ds vs → Reps K S μ H es ws → Reps K S μ H (ds ++ es) (vs ++ ws)
  | [], _, _, _, h, h' => by cases (show _ = [] from h); exact h'
  | d :: ds, _, _, _, ⟨v, r, e1, h1, h2⟩, h' => by subst e1; exact ⟨v, _, rfl, h1, Reps.append h2 h'⟩
theorem Reps.get : ∀ {ds : List D} {vs : List V} {i : Nat} {d : D}, Reps K S μ H ds vs → ds[i]? = some d → ∃ v, vs[i]? = some v ∧ Rep K S μ H d v
  | [], _, _, _, _, e => by simp at e
  | d :: ds, _, 0, _, ⟨v, r, e1, h1, _⟩, e => by subst e1; simp at e; subst e; exact ⟨v, rfl, h1⟩
  | d :: ds, _, i + 1, _, ⟨v, r, e1, _, h2⟩, e => by
    subst e1
    obtain ⟨w, h3, h4⟩ := Reps.get (i := i) h2 (by simpa using e)
    exact ⟨w, by simpa using h3, h4⟩
theorem Reps.take : ∀ {ds : List D} {vs : List V} (n : Nat), Reps K S μ H ds vs → Reps K S μ H (ds.take n) (vs.take n)
  | _, _, 0, _ => by simp [Reps]
  | [], _, _ + 1, h => by cases (show _ = [] from h); exact rfl
  | d :: ds, _, n + 1, ⟨v, r, e1, h1, h2⟩ => by subst e1; exact ⟨v, _, rfl, h1, Reps.take n h2⟩
theorem Reps.drop : ∀ {ds : List D} {vs : List V} (n : Nat), Reps K S μ H ds vs → Reps K S μ H (ds.drop n) (vs.drop n)
  | _, _, 0, h => h
  | [], _, _ + 1, h => by cases (show _ = [] from h); exact rfl
  | d :: ds, _, n + 1, ⟨v, r, e1, _, h2⟩ => by subst e1; exact Reps.drop n h2
theorem Reps.set {d : D} {v : V} (r : Rep K S μ H d v) : ∀ {ds : List D} {vs : List V} (i : Nat), Reps K S μ H ds vs → Reps K S μ H (ds.set i d) (vs.set i v)
  | [], _, _, h => by cases (show _ = [] from h); exact rfl
  | _ :: ds, _, 0, ⟨w, q, e1, _, h2⟩ => by subst e1; exact ⟨v, q, rfl, r, h2⟩
  | _ :: ds, _, i + 1, ⟨w, q, e1, h1, h2⟩ => by subst e1; exact ⟨w, _, rfl, h1, Reps.set r i h2⟩
theorem Reps.eraseIdx : ∀ {ds : List D} {vs : List V} (i : Nat), Reps K S μ H ds vs → Reps K S μ H (ds.eraseIdx i) (vs.eraseIdx i)
  | [], _, _, h => by cases (show _ = [] from h); exact rfl
  | _ :: ds, _, 0, ⟨w, q, e1, _, h2⟩ => by subst e1; exact h2
  | _ :: ds, _, i + 1, ⟨w, q, e1, h1, h2⟩ => by subst e1; exact ⟨w, _, rfl, h1, Reps.eraseIdx i h2⟩
theorem Reps.dropLast {ds : List D} {vs : List V} (h : Reps K S μ H ds vs) : Reps K S μ H ds.dropLast vs.dropLast := by
  rw [List.dropLast_eq_take, List.dropLast_eq_take, ← h.length]
  exact h.take _
theorem Reps.rep {ds : List D} {vs : List V} (h : Reps K S μ H ds vs) : ∀ k : Nat, Reps K S μ H (List.replicate k ds).flatten (List.replicate k vs).flatten
  | 0 => rfl
  | k + 1 => by
    rw [List.replicate_succ, List.replicate_succ, List.flatten_cons, List.flatten_cons]
    exact Reps.append h (Reps.rep h k)
theorem Reps.cut {ds : List D} {vs : List V} (h : Reps K S μ H ds vs) (lo hi : Option Int) : Reps K S μ H (cutD ds lo hi) (cutV vs lo hi) := by
  unfold cutD cutV
  rw [h.length]
  exact (h.drop _).take _

/-- a list to be read -/
def LsR (K : PySem.W.Frag) (S : Sto) (μ : Mu) (H : Hp) (xs : List D) (v : V) : Prop := ∃ a vs, v = .ref a ∧ SqP K H a vs ∧ Reps K S μ H xs vs
theorem Rep.lsR {ds : List D} {v : V} (h : Rep K S μ H (.lst ds) v) : LsR K S μ H ds v := by
  obtain ⟨a, vs, e, q, r⟩ := h
  exact ⟨a, vs, e, q.elim (fun z => .inl z.1) .inr, r⟩
/-- what a value is seen as -/
def Seen (K : PySem.W.Frag) (S : Sto) (μ : Mu) (H : Hp) : D → V → Prop
  | .lst xs, v => LsR K S μ H xs v
  | d, v => Rep K S μ H d v
theorem see_ok (g : Good K S μ H) {d d' : D} {v : V} (h : Rep K S μ H d v) (e : see S d = some d') : Seen K S μ H d' v := by
  cases d with
  | ref i =>
    unfold see at e
    simp only at e
    cases q : S[i]? with
    | none => rw [q] at e; cases e
    | some o =>
      cases o with
      | none => rw [q] at e; cases e
      | some xs =>
        rw [q] at e
        cases e
        obtain ⟨a, e1, m⟩ := h
        obtain ⟨b, vs, m', hb, r⟩ := g.at_ i xs q
        rw [m] at m'; cases m'
        exact ⟨a, vs, e1, SqP.of hb, r⟩
  | lst xs => cases e; exact h.lsR
  | non => cases e; exact h
  | bl b => cases e; exact h
  | int i => cases e; exact h
  | str x => cases e; exact h
  | tup xs => cases e; exact h

mutual
theorem Rep.dp : ∀ {d : D} {v : V}, D.pure d = true → Rep K S μ H d v → Dp K H v d.py
  | .non, _, _, h => by cases (show _ = V.non from h); exact .non
  | .bl b, _, _, h => by cases (show _ = V.bl b from h); exact .bl b
  | .int i, _, _, h => by cases (show _ = V.int i from h); exact .int i
  | .str x, _, _, h => by cases (show _ = V.str x from h); exact .str x
  | .tup ds, _, p, ⟨a, vs, e, q, r⟩ => by subst e; exact .tup q (Reps.dp p r)
  | .lst ds, _, p, ⟨a, vs, e, q, r⟩ => by subst e; exact .lst (SqP.l (q.elim (fun z => .inl z.1) .inr)) (Reps.dp p r)
  | .ref i, _, p, _ => by cases p
theorem Reps.dp : ∀ {ds : List D} {vs : List V}, D.pures ds = true → Reps K S μ H ds vs → DpAll K H vs (D.pys ds)
  | [], _, _, h => by cases (show _ = [] from h); exact .nil
  | d :: ds, _, p, ⟨v, r, e, h1, h2⟩ => by
    subst e
    have p' : (D.pure d && D.pures ds) = true := p
    rw [Bool.and_eq_true] at p'
    exact .cons (Rep.dp p'.1 h1) (Reps.dp p'.2 h2)
end
theorem Seen.dp {d : D} {v : V} (p : D.pure d = true) (h : Seen K S μ H d v) : Dp K H v d.py := by
  cases d with
  | lst xs =>
    obtain ⟨a, vs, e, q, r⟩ := h
    subst e
    exact .lst q.l (Reps.dp p r)
  | ref i => cases p
  | non => exact Rep.dp (K := K) (S := S) (μ := μ) p h
  | bl b => exact Rep.dp (K := K) (S := S) (μ := μ) p h
  | int i => exact Rep.dp (K := K) (S := S) (μ := μ) p h
  | str x => exact Rep.dp (K := K) (S := S) (μ := μ) p h
  | tup xs => exact Rep.dp (K := K) (S := S) (μ := μ) p h

theorem flat_rep {d : D} {v : V} (f : d.flat = true) (h : Rep K S μ H d v) : flatV v = true ∧ ∀ S' μ' H', Rep K S' μ' H' d v := by
  cases d with
  | non => cases (show _ = V.non from h); exact ⟨rfl, fun _ _ _ => rfl⟩
  | bl b => cases (show _ = V.bl b from h); exact ⟨rfl, fun _ _ _ => rfl⟩
  | int i => cases (show _ = V.int i from h); exact ⟨rfl, fun _ _ _ => rfl⟩
  | str x => cases (show _ = V.str x from h); exact ⟨rfl, fun _ _ _ => rfl⟩
  | tup _ => cases f
  | lst _ => cases f
  | ref _ => cases f
theorem eqv_flat {d e : D} {v w : V} (fd : d.flat = true) (fe : e.flat = true) (h : Rep K S μ H d v) (h' : Rep K S μ H e w) : eqV v w = D.eqv d e := by
  cases d with
  | non => cases (show _ = V.non from h); cases e <;> first | (cases fe; done) | (cases h'; simp [eqV, D.eqv, D.py, PyData.eqv])
  | bl b => cases (show _ = V.bl b from h); cases e <;> first | (cases fe; done) | (cases h'; simp [eqV, D.eqv, D.py, PyData.eqv])
  | int b => cases (show _ = V.int b from h); cases e <;> first | (cases fe; done) | (cases h'; simp [eqV, D.eqv, D.py, PyData.eqv])
  | str b => cases (show _ = V.str b from h); cases e <;> first | (cases fe; done) | (cases h'; simp [eqV, D.eqv, D.py, PyData.eqv])
  | tup _ => cases fd
  | lst _ => cases fd
  | ref _ => cases fd
theorem flats_rep : ∀ {ds : List D} {vs : List V}, ds.all D.flat = true → Reps K S μ H ds vs → vs.all flatV = true
  | [], _, _, h => by cases (show _ = [] from h); rfl
  | d :: ds, _, f, ⟨v, r, e, h1, h2⟩ => by
    subst e
    rw [List.all_cons, Bool.and_eq_true] at f ⊢
    exact ⟨(flat_rep f.1 h1).1, flats_rep f.2 h2⟩
theorem inV_flat {x : D} {v : V} (fx : x.flat = true) (hx : Rep K S μ H x v) : ∀ {ds : List D} {vs : List V}, ds.all D.flat = true → Reps K S μ H ds vs → inV v vs = inFlat x ds
  | [], _, _, h => by cases (show _ = [] from h); rfl
  | d :: ds, _, f, ⟨w, r, e, h1, h2⟩ => by
    subst e
    rw [List.all_cons, Bool.and_eq_true] at f
    have q := inV_flat fx hx f.2 h2
    unfold inV inFlat at q ⊢
    rw [List.any_cons, List.any_cons, q, eqv_flat f.1 fx h1 hx]

theorem Good.none_notLive (g : Good K S μ H) {p : Addr} (h : H p = none) : ¬ Live S μ p := fun l => by
  obtain ⟨vs, e⟩ := g.live l
  rw [h] at e; cases e
theorem evo_new (g : Good K S μ H) {p : Addr} {o : HO} (h : H p = none) : Evo S μ H S μ (upd H p o) :=
  ⟨⟨fun _ _ q => q, fun a u q n => ⟨by rw [upd_ne (ne_of_none q h)]; exact q, n⟩⟩, rfl, fun a u _ q => by rw [upd_ne (ne_of_none q h)]; exact q⟩
theorem good_new (g : Good K S μ H) {p : Addr} {o : HO} (h : H p = none) : Good K S μ (upd H p o) := by
  have e := evo_new (o := o) g h
  refine ⟨g.len, fun i xs q => ?_, g.inj, fun a ha => ?_, g.zn⟩
  · obtain ⟨a, vs, m, hh, r⟩ := g.at_ i xs q
    exact ⟨a, vs, m, by rw [upd_ne (ne_of_none hh h)]; exact hh, r.mono g e.w⟩
  · obtain ⟨vs, hh⟩ := g.zl a ha
    exact ⟨vs, by rw [upd_ne (ne_of_none hh h)]; exact hh⟩
theorem rep_tup_new (g : Good K S μ H) {p : Addr} {ds : List D} {vs : List V} (h : H p = none) (r : Reps K S μ H ds vs) : Rep K S μ (upd H p (.tup vs)) (.tup ds) (.ref p) :=
  ⟨p, vs, rfl, SqT.of upd_same, r.mono g (evo_new g h).w⟩
theorem rep_lst_new (g : Good K S μ H) {p : Addr} {ds : List D} {vs : List V} (h : H p = none) (r : Reps K S μ H ds vs) : Rep K S μ (upd H p (.lst vs)) (.lst ds) (.ref p) :=
  ⟨p, vs, rfl, .inl ⟨.inl upd_same, g.none_notLive h⟩, r.mono g (evo_new g h).w⟩

theorem get_snoc {α : Type} {l : List α} {x y : α} {i : Nat} (h : (l ++ [x])[i]? = some y) : l[i]? = some y ∨ (i = l.length ∧ x = y) := by
  by_cases hi : i < l.length
  · rw [List.getElem?_append_left hi] at h; exact .inl h
  · rw [List.getElem?_append_right (by omega)] at h
    have e : i - l.length = 0 := by
      rcases Nat.eq_zero_or_pos (i - l.length) with e | e
      · exact e
      · rw [List.getElem?_eq_none (by simp; omega)] at h; cases h
    rw [e] at h
    exact .inr ⟨by omega, by simpa using h⟩
theorem get_mono {α : Type} {l r : List α} {x : α} {i : Nat} (h : l[i]? = some x) : (l ++ r)[i]? = some x := by
  rw [List.getElem?_append_left (List.getElem?_eq_some_iff.mp h).1]; exact h
theorem get_last {α : Type} {l : List α} {x : α} {n : Nat} (h : l.length = n) : (l ++ [x])[n]? = some x := by
  rw [← h, List.getElem?_append_right (Nat.le_refl _)]; simp
abbrev Mu.more (μ : Mu) (p : Addr) : Mu := ⟨μ.ps ++ [p], μ.z⟩
theorem live0_more (g : Good K S μ H) {p a : Addr} {xs : List D} (l : Live0 (S ++ [some xs]) (μ.more p) a) : Live0 S μ a ∨ a = p := by
  obtain ⟨i, ys, e1, e2⟩ := l
  rcases get_snoc e2 with m | ⟨m, z⟩
  · rcases get_snoc e1 with k | ⟨k, _⟩
    · exact .inl ⟨i, ys, k, m⟩
    · have := (List.getElem?_eq_some_iff.mp m).1
      rw [k, g.len] at this
      exact absurd this (Nat.lt_irrefl _)
  · exact .inr z.symm
/-- the state around, without what speaks of p -/
structure Apart (K : PySem.W.Frag) (S : Sto) (μ : Mu) (H : Hp) (p : Addr) (vs : List V) : Prop where
  g : Good K S μ H
  nl : ¬ Live S μ p
theorem evo_mk (g : Good K S μ H) {p : Addr} {xs : List D} {o : HO} (h : H p = none) : Evo S μ H (S ++ [some xs]) (μ.more p) (upd H p o) :=
  ⟨⟨fun i a m => get_mono m, fun a u q n => ⟨by rw [upd_ne (ne_of_none q h)]; exact q, fun l => by
    rcases l with l | l
    · rcases live0_more g l with l | l
      · exact n (.inl l)
      · subst l
        rw [h] at q; cases q
    · exact n (.inr l)⟩⟩, rfl, fun a u _ q => by rw [upd_ne (ne_of_none q h)]; exact q⟩
theorem good_mk (g : Good K S μ H) {p : Addr} {xs : List D} {vs : List V} (h : H p = none) (r : Reps K S μ H xs vs) : Good K (S ++ [some xs]) (μ.more p) (upd H p (.lst vs)) := by
  have e : Evo S μ H (S ++ [some xs]) (μ.more p) (upd H p (.lst vs)) := evo_mk g h
  have low : ∀ (i : Nat) (ys : List D), (S ++ [some xs])[i]? = some (some ys) → (S[i]? = some (some ys)) ∨ (i = S.length ∧ xs = ys) := fun i ys q => by
    rcases get_snoc q with k | ⟨k, z⟩
    · exact .inl k
    · exact .inr ⟨k, Option.some.inj z⟩
  refine ⟨by rw [List.length_append, List.length_append, g.len]; rfl, fun i ys q => ?_, fun i j ys zs a q1 q2 m1 m2 => ?_, fun a ha => ?_, fun a ha l => ?_⟩
  · rcases low i ys q with k | ⟨k, z⟩
    · obtain ⟨a, ws, m, ha, rr⟩ := g.at_ i ys k
      exact ⟨a, ws, get_mono m, by rw [upd_ne (ne_of_none ha h)]; exact ha, rr.mono g e.w⟩
    · subst z
      exact ⟨p, vs, get_last (by rw [k, g.len]), upd_same, r.mono g e.w⟩
  · have pos : ∀ (i : Nat) (ys : List D), (S ++ [some xs])[i]? = some (some ys) → (μ.ps ++ [p])[i]? = some a → (S[i]? = some (some ys) ∧ μ.ps[i]? = some a) ∨ (i = S.length ∧ a = p) := fun i ys q m => by
      rcases low i ys q with k | ⟨k, _⟩
      · left
        refine ⟨k, ?_⟩
        rcases get_snoc m with z | ⟨z, _⟩
        · exact z
        · have := (List.getElem?_eq_some_iff.mp k).1
          rw [z, g.len] at this
          exact absurd this (Nat.lt_irrefl _)
      · right
        refine ⟨k, ?_⟩
        rw [get_last (by rw [k, g.len])] at m
        exact (Option.some.inj m).symm
    rcases pos i ys q1 m1 with ⟨k1, n1⟩ | ⟨k1, n1⟩
    · rcases pos j zs q2 m2 with ⟨k2, n2⟩ | ⟨k2, n2⟩
      · exact g.inj i j ys zs a k1 k2 n1 n2
      · subst n2
        exact absurd (.inl ⟨i, ys, k1, n1⟩) (g.none_notLive h)
    · rcases pos j zs q2 m2 with ⟨k2, n2⟩ | ⟨k2, n2⟩
      · subst n1
        exact absurd (.inl ⟨j, zs, k2, n2⟩) (g.none_notLive h)
      · rw [k1, k2]
  · obtain ⟨ws, q⟩ := g.zl a ha
    exact ⟨ws, by rw [upd_ne (ne_of_none q h)]; exact q⟩
  · rcases live0_more g l with l | l
    · exact g.zn a ha l
    · subst l
      obtain ⟨ws, q⟩ := g.zl a ha
      rw [h] at q; cases q

theorem live0_set {i : Nat} {x : Option (List D)} {a : Addr} (h : Live0 (S.set i x) μ a) : Live0 S μ a ∨ (μ.ps[i]? = some a ∧ i < S.length ∧ x ≠ none) := by
  obtain ⟨j, ys, e, m⟩ := h
  by_cases hj : i = j
  · subst hj
    by_cases hi : i < S.length
    · rw [List.getElem?_set_self hi] at e
      exact .inr ⟨m, hi, by intro z; rw [z] at e; cases e⟩
    · rw [List.getElem?_eq_none (by rw [List.length_set]; omega)] at e; cases e
  · rw [List.getElem?_set_ne hj] at e
    exact .inl ⟨j, ys, e, m⟩
theorem evo_put (g : Good K S μ H) {i : Nat} {a : Addr} {xs ys : List D} {o : HO} (hi : S[i]? = some (some xs)) (m : μ.ps[i]? = some a) : Evo S μ H (S.set i (some ys)) μ (upd H a o) := by
  have la : Live0 S μ a := ⟨i, xs, hi, m⟩
  refine ⟨⟨fun _ _ q => q, fun b u q n => ⟨by rw [upd_ne fun z => by subst z; exact n (.inl la)]; exact q, fun l => ?_⟩⟩, rfl, fun b u hb q => by rw [upd_ne fun z => by subst z; exact g.zn _ hb la]; exact q⟩
  rcases l with l | l
  · rcases live0_set l with k | ⟨k, _, _⟩
    · exact n (.inl k)
    · rw [m] at k; cases k
      exact n (.inl la)
  · exact n (.inr l)
theorem good_put (g : Good K S μ H) {i : Nat} {a : Addr} {xs ys : List D} {vs : List V} (hi : S[i]? = some (some xs)) (m : μ.ps[i]? = some a) (r : Reps K S μ H ys vs) :
    Good K (S.set i (some ys)) μ (upd H a (.lst vs)) := by
  have e : Evo S μ H (S.set i (some ys)) μ (upd H a (.lst vs)) := evo_put g hi m
  have la : Live0 S μ a := ⟨i, xs, hi, m⟩
  have lt := (List.getElem?_eq_some_iff.mp hi).1
  have low : ∀ (j : Nat) (zs : List D), (S.set i (some ys))[j]? = some (some zs) → ∃ ws, S[j]? = some (some ws) ∧ (i ≠ j → ws = zs) ∧ (i = j → ys = zs) := fun j zs q => by
    by_cases h : i = j
    · subst h
      rw [List.getElem?_set_self lt] at q
      exact ⟨xs, hi, fun z => absurd rfl z, fun _ => Option.some.inj (Option.some.inj q)⟩
    · rw [List.getElem?_set_ne h] at q
      exact ⟨zs, q, fun _ => rfl, fun z => absurd z h⟩
  refine ⟨by rw [List.length_set]; exact g.len, fun j zs q => ?_, fun j k zs ws b q1 q2 m1 m2 => ?_, fun b hb => ?_, fun b hb l => ?_⟩
  · obtain ⟨ws, q0, ne, eq⟩ := low j zs q
    obtain ⟨b, us, mb, hb, rr⟩ := g.at_ j ws q0
    by_cases h : i = j
    · subst h
      have z := eq rfl
      subst z
      rw [m] at mb; cases mb
      exact ⟨a, vs, m, upd_same, r.mono g e.w⟩
    · have z := ne h
      subst z
      refine ⟨b, us, mb, ?_, rr.mono g e.w⟩
      rw [upd_ne fun z => h (g.inj i j xs ws a hi q0 m (by rw [← z]; exact mb))]; exact hb
  · obtain ⟨ws1, q1', _, _⟩ := low j zs q1
    obtain ⟨ws2, q2', _, _⟩ := low k ws q2
    exact g.inj j k ws1 ws2 b q1' q2' m1 m2
  · obtain ⟨us, q⟩ := g.zl b hb
    exact ⟨us, by rw [upd_ne fun z => by subst z; exact g.zn _ hb la]; exact q⟩
  · rcases live0_set l with k | ⟨k, _, _⟩
    · exact g.zn b hb k
    · rw [m] at k; cases k
      exact g.zn a hb la
theorem evo_drop {i : Nat} : Evo S μ H (S.set i none) μ H :=
  ⟨⟨fun _ _ q => q, fun b u q n => ⟨q, fun l => by
    rcases l with l | l
    · rcases live0_set l with k | ⟨_, _, k⟩
      · exact n (.inl k)
      · exact k rfl
    · exact n (.inr l)⟩⟩, rfl, fun _ _ _ q => q⟩
theorem low_drop {i : Nat} (j : Nat) (zs : List D) (q : (S.set i none)[j]? = some (some zs)) : S[j]? = some (some zs) ∧ i ≠ j := by
  by_cases h : i = j
  · subst h
    by_cases lt : i < S.length
    · rw [List.getElem?_set_self lt] at q; cases q
    · rw [List.getElem?_eq_none (by rw [List.length_set]; omega)] at q; cases q
  · rw [List.getElem?_set_ne h] at q
    exact ⟨q, h⟩
theorem good_drop (g : Good K S μ H) {i : Nat} : Good K (S.set i none) μ H := by
  have e : Evo S μ H (S.set i none) μ H := evo_drop
  refine ⟨by rw [List.length_set]; exact g.len, fun j zs q => ?_, fun j k zs ws b q1 q2 m1 m2 => g.inj j k zs ws b (low_drop j zs q1).1 (low_drop k ws q2).1 m1 m2, g.zl, fun a ha l => ?_⟩
  · obtain ⟨b, us, mb, hb, rr⟩ := g.at_ j zs (low_drop j zs q).1
    exact ⟨b, us, mb, hb, rr.mono g e.w⟩
  · rcases live0_set l with k | ⟨_, _, k⟩
    · exact g.zn a ha k
    · exact k rfl
theorem rep_drop (g : Good K S μ H) {i : Nat} {xs : List D} {v : V} (hi : S[i]? = some (some xs)) (r : Rep K S μ H (.ref i) v) : Rep K (S.set i none) μ H (.lst xs) v := by
  obtain ⟨a, e1, m⟩ := r
  obtain ⟨b, vs, m', hb, rr⟩ := g.at_ i xs hi
  rw [m] at m'; cases m'
  refine ⟨a, vs, e1, .inl ⟨.inl hb, fun l => ?_⟩, rr.mono g evo_drop.w⟩
  rcases l with ⟨j, ys, e, mj⟩ | l
  · obtain ⟨q, ne⟩ := low_drop j ys e
    exact ne (g.inj i j xs ys a hi q m mj)
  · exact g.zn a l ⟨i, xs, hi, m⟩

abbrev Mu.take (μ : Mu) (n : Nat) : Mu := ⟨μ.ps.take n, μ.z⟩
theorem live0_take {n : Nat} {a : Addr} (h : Live0 (S.take n) (μ.take n) a) : Live0 S μ a := by
  obtain ⟨i, xs, e, m⟩ := h
  rw [List.getElem?_take] at e m
  split at e
  · rename_i hlt
    rw [if_pos hlt] at m
    exact ⟨i, xs, e, m⟩
  · cases e
theorem live_take {n : Nat} {a : Addr} (h : Live (S.take n) (μ.take n) a) : Live S μ a := h.elim (fun l => .inl (live0_take l)) .inr
mutual
theorem Rep.forget {S1 : Sto} {μ1 : Mu} (lv : ∀ a, Live S1 μ1 a → Live S μ a) : ∀ {d : D} {v : V}, D.pure d = true → Rep K S μ H d v → Rep K S1 μ1 H d v
  | .non, _, _, h => h
  | .bl _, _, _, h => h
  | .int _, _, _, h => h
  | .str _, _, _, h => h
  | .tup ds, _, p, ⟨a, vs, e1, q, r⟩ => ⟨a, vs, e1, q, Reps.forget lv p r⟩
  | .lst ds, _, p, ⟨a, vs, e1, q, r⟩ => ⟨a, vs, e1, q.elim (fun z => .inl ⟨z.1, fun l => z.2 (lv a l)⟩) .inr, Reps.forget lv p r⟩
  | .ref i, _, p, _ => by cases p
theorem Reps.forget {S1 : Sto} {μ1 : Mu} (lv : ∀ a, Live S1 μ1 a → Live S μ a) : ∀ {ds : List D} {vs : List V}, D.pures ds = true → Reps K S μ H ds vs → Reps K S1 μ1 H ds vs
  | [], _, _, h => h
  | d :: ds, _, p, ⟨v, r, e1, h1, h2⟩ => by
    have p' : (D.pure d && D.pures ds) = true := p
    rw [Bool.and_eq_true] at p'
    exact ⟨v, r, e1, Rep.forget lv p'.1 h1, Reps.forget lv p'.2 h2⟩
end
mutual
theorem Rep.under {n : Nat} : ∀ {d : D} {v : V}, D.under n d = true → Rep K S μ H d v → Rep K (S.take n) (μ.take n) H d v
  | .non, _, _, h => h
  | .bl _, _, _, h => h
  | .int _, _, _, h => h
  | .str _, _, _, h => h
  | .tup ds, _, p, ⟨a, vs, e1, q, r⟩ => ⟨a, vs, e1, q, Reps.under p r⟩
  | .lst ds, _, p, ⟨a, vs, e1, q, r⟩ => ⟨a, vs, e1, q.elim (fun z => .inl ⟨z.1, fun l => z.2 (live_take l)⟩) .inr, Reps.under p r⟩
  | .ref i, _, p, ⟨a, e1, m⟩ => ⟨a, e1, by
    have p' : decide (i < n) = true := p
    rw [List.getElem?_take, if_pos (of_decide_eq_true p')]
    exact m⟩
theorem Reps.under {n : Nat} : ∀ {ds : List D} {vs : List V}, D.unders n ds = true → Reps K S μ H ds vs → Reps K (S.take n) (μ.take n) H ds vs
  | [], _, _, h => h
  | d :: ds, _, p, ⟨v, r, e1, h1, h2⟩ => by
    have p' : (D.under n d && D.unders n ds) = true := p
    rw [Bool.and_eq_true] at p'
    exact ⟨v, r, e1, Rep.under p'.1 h1, Reps.under p'.2 h2⟩
end
theorem good_take (g : Good K S μ H) (n : Nat) (cl : closedS n (S.take n) = true) : Good K (S.take n) (μ.take n) H := by
  have low : ∀ (i : Nat) (xs : List D), (S.take n)[i]? = some (some xs) → S[i]? = some (some xs) ∧ i < n := fun i xs q => by
    rw [List.getElem?_take] at q
    split at q
    · rename_i h
      exact ⟨q, h⟩
    · cases q
  refine ⟨by rw [List.length_take, List.length_take, g.len], fun i xs q => ?_, fun i j xs ys a q1 q2 m1 m2 => ?_, g.zl, fun a ha l => g.zn a ha (live0_take l)⟩
  · obtain ⟨q0, lt⟩ := low i xs q
    obtain ⟨a, vs, m, h, r⟩ := g.at_ i xs q0
    exact ⟨a, vs, by rw [List.getElem?_take, if_pos lt]; exact m, h, Reps.under (List.all_eq_true.mp cl (some xs) (List.mem_of_getElem? q)) r⟩
  · obtain ⟨q1', lt1⟩ := low i xs q1
    obtain ⟨q2', lt2⟩ := low j ys q2
    rw [List.getElem?_take, if_pos lt1] at m1
    rw [List.getElem?_take, if_pos lt2] at m2
    exact g.inj i j xs ys a q1' q2' m1 m2
theorem evo_take {n : Nat} (hn : n = μ.ps.length) (e : Evo S μ H S' μ' H') : Evo S μ H (S'.take n) (μ'.take n) H' :=
  ⟨⟨fun i a m => by
    have lt := (List.getElem?_eq_some_iff.mp m).1
    rw [List.getElem?_take, if_pos (by omega)]
    exact e.w.mu i a m, fun a o q k => ⟨(e.w.old a o q k).1, fun l => (e.w.old a o q k).2 (live_take l)⟩⟩, e.z, e.hold⟩

abbrev Mu.hold (μ : Mu) (p : Addr) : Mu := ⟨μ.ps, p :: μ.z⟩
theorem live_hold {p a : Addr} (h : Live S (μ.hold p) a) : Live S μ a ∨ a = p := by
  rcases h with h | h
  · exact .inl (.inl h)
  · rcases List.mem_cons.mp h with z | z
    · exact .inr z
    · exact .inl (.inr z)
theorem evoW_begin (g : Good K S μ H) {p : Addr} {o : HO} (h : H p = none) : EvoW S μ H S (μ.hold p) (upd H p o) :=
  ⟨fun _ _ q => q, fun a u q n => ⟨by rw [upd_ne (ne_of_none q h)]; exact q, fun l => by
    rcases live_hold l with l | l
    · exact n l
    · subst l
      rw [h] at q; cases q⟩⟩
theorem good_begin (g : Good K S μ H) {p : Addr} {vs : List V} (h : H p = none) : Good K S (μ.hold p) (upd H p (.lst vs)) := by
  have e := evoW_begin (o := .lst vs) g h
  refine ⟨g.len, fun i xs q => ?_, g.inj, fun a ha => ?_, fun a ha l => ?_⟩
  · obtain ⟨a, ws, m, hh, r⟩ := g.at_ i xs q
    exact ⟨a, ws, m, by rw [upd_ne (ne_of_none hh h)]; exact hh, r.mono g e⟩
  · rcases List.mem_cons.mp ha with z | z
    · subst z
      exact ⟨vs, upd_same⟩
    · obtain ⟨ws, q⟩ := g.zl a z
      exact ⟨ws, by rw [upd_ne (ne_of_none q h)]; exact q⟩
  · rcases List.mem_cons.mp ha with z | z
    · subst z
      exact g.none_notLive h (.inl l)
    · exact g.zn a z l
/-- one item more -/
theorem evoW_grow {p : Addr} {o : HO} (hp : p ∈ μ.z) : EvoW S μ H S μ (upd H p o) :=
  ⟨fun _ _ q => q, fun a u q n => ⟨by rw [upd_ne fun z => by subst z; exact n (.inr hp)]; exact q, n⟩⟩
theorem good_grow (g : Good K S μ H) {p : Addr} {vs : List V} (hp : p ∈ μ.z) : Good K S μ (upd H p (.lst vs)) := by
  refine ⟨g.len, fun i xs q => ?_, g.inj, fun a ha => ?_, g.zn⟩
  · obtain ⟨a, ws, m, hh, r⟩ := g.at_ i xs q
    exact ⟨a, ws, m, by rw [upd_ne fun z => by subst z; exact g.zn _ hp ⟨i, xs, q, m⟩]; exact hh, r.mono g (evoW_grow hp)⟩
  · by_cases z : a = p
    · subst z
      exact ⟨vs, upd_same⟩
    · obtain ⟨ws, q⟩ := g.zl a ha
      exact ⟨ws, by rw [upd_ne z]; exact q⟩
/-- the list is made: a value -/
theorem live_unhold {p a : Addr} (h : Live S μ a) : Live S (μ.hold p) a := h.elim .inl fun z => .inr (List.mem_cons_of_mem _ z)
theorem evoW_end {p : Addr} : EvoW S (μ.hold p) H S μ H := ⟨fun _ _ q => q, fun a u q n => ⟨q, fun l => n (live_unhold l)⟩⟩
theorem good_end (g : Good K S (μ.hold p) H) : Good K S μ H :=
  ⟨g.len, fun i xs q => by
    obtain ⟨a, ws, m, hh, r⟩ := g.at_ i xs q
    exact ⟨a, ws, m, hh, r.mono g evoW_end⟩, g.inj, fun a ha => g.zl a (List.mem_cons_of_mem _ ha), fun a ha l => g.zn a (List.mem_cons_of_mem _ ha) l⟩
/-- the list is made: a place -/
theorem good_place (g : Good K S (μ.hold p) H) (np : p ∉ μ.z) {xs : List D} {vs : List V} (hp : H p = some (.lst vs)) (r : Reps K S (μ.hold p) H xs vs) : Good K (S ++ [some xs]) (μ.more p) H ∧ EvoW S (μ.hold p) H (S ++ [some xs]) (μ.more p) H := by
  have g0 : Good K S μ H := good_end g
  have nl : ¬ Live0 S μ p := g.zn p List.mem_cons_self
  have e : EvoW S (μ.hold p) H (S ++ [some xs]) (μ.more p) H := ⟨fun i a m => get_mono m, fun a u q n => ⟨q, fun l => by
    rcases l with l | l
    · rcases live0_more g0 l with l | l
      · exact n (.inl l)
      · subst l
        exact n (.inr List.mem_cons_self)
    · exact n (.inr (List.mem_cons_of_mem _ l))⟩⟩
  have low : ∀ (i : Nat) (ys : List D), (S ++ [some xs])[i]? = some (some ys) → (S[i]? = some (some ys)) ∨ (i = S.length ∧ xs = ys) := fun i ys q => by
    rcases get_snoc q with k | ⟨k, z⟩
    · exact .inl k
    · exact .inr ⟨k, Option.some.inj z⟩
  refine ⟨⟨by rw [List.length_append, List.length_append, g0.len]; rfl, fun i ys q => ?_, fun i j ys zs a q1 q2 m1 m2 => ?_, fun a ha => g0.zl a ha, fun a ha l => ?_⟩, e⟩
  · rcases low i ys q with k | ⟨k, z⟩
    · obtain ⟨a, ws, m, ha, rr⟩ := g.at_ i ys k
      exact ⟨a, ws, get_mono m, ha, rr.mono g e⟩
    · subst z
      exact ⟨p, vs, get_last (by rw [k, g0.len]), hp, r.mono g e⟩
  · have pos : ∀ (i : Nat) (ys : List D), (S ++ [some xs])[i]? = some (some ys) → (μ.ps ++ [p])[i]? = some a → (S[i]? = some (some ys) ∧ μ.ps[i]? = some a) ∨ (i = S.length ∧ a = p) := fun i ys q m => by
      rcases low i ys q with k | ⟨k, _⟩
      · left
        refine ⟨k, ?_⟩
        rcases get_snoc m with z | ⟨z, _⟩
        · exact z
        · have := (List.getElem?_eq_some_iff.mp k).1
          rw [z, g0.len] at this
          exact absurd this (Nat.lt_irrefl _)
      · right
        refine ⟨k, ?_⟩
        rw [get_last (by rw [k, g0.len])] at m
        exact (Option.some.inj m).symm
    rcases pos i ys q1 m1 with ⟨k1, n1⟩ | ⟨k1, n1⟩
    · rcases pos j zs q2 m2 with ⟨k2, n2⟩ | ⟨k2, n2⟩
      · exact g0.inj i j ys zs a k1 k2 n1 n2
      · subst n2
        exact absurd ⟨i, ys, k1, n1⟩ nl
    · rcases pos j zs q2 m2 with ⟨k2, n2⟩ | ⟨k2, n2⟩
      · subst n1
        exact absurd ⟨j, zs, k2, n2⟩ nl
      · rw [k1, k2]
  · rcases live0_more g0 l with l | l
    · exact g0.zn a ha l
    · subst l
      exact np ha
end

structure RelS (K : PySem.W.Frag) (S : Sto) (μ : Mu) (H : Hp) (ρ : Env) (σ : L2.St) : Prop where
  len : ρ.length = σ.length
  at_ : ∀ (i : Nat) (d : D), ρ[i]? = some (some d) → ∃ v, σ[i]? = some (some v) ∧ Rep K S μ H d v
section
variable {K : PySem.W.Frag} {S S' : Sto} {μ μ' : Mu} {H H' : Hp} {ρ : Env} {σ : L2.St}
theorem RelS.mono (g : Good K S μ H) (e : EvoW S μ H S' μ' H') (r : RelS K S μ H ρ σ) : RelS K S' μ' H' ρ σ :=
  ⟨r.len, fun i d q => let ⟨v, h1, h2⟩ := r.at_ i d q; ⟨v, h1, h2.mono g e⟩⟩
theorem RelS.set (r : RelS K S μ H ρ σ) {d : D} {v : V} (i : Nat) (h : Rep K S μ H d v) : RelS K S μ H (ρ.set i (some d)) (σ.set i (some v)) :=
  ⟨by rw [List.length_set, List.length_set]; exact r.len, fun j c q => by
    by_cases hj : i = j
    · subst hj
      by_cases lt : i < ρ.length
      · rw [List.getElem?_set_self lt] at q
        cases q
        exact ⟨v, by rw [List.getElem?_set_self (by rw [← r.len]; exact lt)], h⟩
      · rw [List.getElem?_eq_none (by rw [List.length_set]; omega)] at q; cases q
    · rw [List.getElem?_set_ne hj] at q
      obtain ⟨w, h1, h2⟩ := r.at_ j c q
      exact ⟨w, by rw [List.getElem?_set_ne hj]; exact h1, h2⟩⟩
theorem RelS.drop (r : RelS K S μ H ρ σ) (i : Nat) : RelS K S μ H (ρ.set i none) (σ.set i none) :=
  ⟨by rw [List.length_set, List.length_set]; exact r.len, fun j c q => by
    by_cases hj : i = j
    · subst hj
      by_cases lt : i < ρ.length
      · rw [List.getElem?_set_self lt] at q; cases q
      · rw [List.getElem?_eq_none (by rw [List.length_set]; omega)] at q; cases q
    · rw [List.getElem?_set_ne hj] at q
      obtain ⟨w, h1, h2⟩ := r.at_ j c q
      exact ⟨w, by rw [List.getElem?_set_ne hj]; exact h1, h2⟩⟩
end
end Iv

set_option Elab.async false
set_option linter.all false
set_option maxRecDepth 100000
set_option maxHeartbeats 1000000
namespace Iv
open PySem PySem.Spec PyProof.Rows L2

theorem small_line {n : Nat} (h : small n = true) : n ≤ sizeLine := by
  have := of_decide_eq_true (show decide (n ≤ 100000) = true from h)
  rw [sizeLine_eq]; omega
theorem small_le {n : Nat} (h : small n = true) : n ≤ 100000 := of_decide_eq_true (show decide (n ≤ 100000) = true from h)
theorem small_lt {n : Nat} (h : small (n + 1) = true) : n < sizeLine := by
  have := small_le h
  rw [sizeLine_eq]; omega

section
variable {X : Cx} {pins : List (Addr × Obj)} {s : Shared} {σ : L2.St} {H : Hp} {S : Sto} {μ : Mu} {v w : V} {u1 u2 : Value} {Q : VK}

/-- behind an operation that makes a value -/
abbrev Cont (K : PySem.W.Frag) (S : Sto) (μ : Mu) (H : Hp) (z : D) (Q : VK) : Prop := ∀ v' H', Good K S μ H' → Evo S μ H S μ H' → Rep K S μ H' z v' → Q v' H'

theorem cont_here {K : PySem.W.Frag} {z : D} {v : V} (g : Good K S μ H) (k : Cont K S μ H z Q) (h : Rep K S μ H z v) : Q v H := k v H g (Evo.refl _ _ _) h
theorem cont_tup {K : PySem.W.Frag} {ds : List D} {vs : List V} (g : Good K S μ H) (k : Cont K S μ H (.tup ds) Q) (r : Reps K S μ H ds vs) : ∀ p, H p = none → Q (.ref p) (upd H p (.tup vs)) :=
  fun _ hp => k _ _ (good_new g hp) (evo_new g hp) (rep_tup_new g hp r)
theorem cont_lst {K : PySem.W.Frag} {ds : List D} {vs : List V} (g : Good K S μ H) (k : Cont K S μ H (.lst ds) Q) (r : Reps K S μ H ds vs) : ∀ p, H p = none → Q (.ref p) (upd H p (.lst vs)) :=
  fun _ hp => k _ _ (good_new g hp) (evo_new g hp) (rep_lst_new g hp r)

/-- list + list, both read -/
theorem cat_lists {a b : Addr} {xs ys : List V} (I : Inv X pins σ H s) (ha : SqP X.K H a xs) (hb : SqP X.K H b ys) (hz : xs.length + ys.length ≤ sizeLine) (q : ∀ p, H p = none → Q (.ref p) (upd H p (.lst (xs ++ ys)))) :
    wpAny (model X.prog X.w) X.A (binaryOp .Add (.ref a) (.ref b)) (EP X pins σ Q) X.xe s := by
  obtain ⟨z, its, n, r, hl, e⟩ := ha.plain I
  obtain ⟨z2, its2, n2, r2, hl2, e2⟩ := hb.plain I
  refine PySem.P.add_list e e2 ?_ (by rw [List.size_toArray, List.size_toArray]; omega)
  have ea : its.toArray ++ its2.toArray = (its ++ its2).toArray := by simp
  rw [ea]
  exact ⟨.ref _, _, I.lnew (t' := s.toks) (r.append r2) (by rw [List.length_append]; omega), rfl, q _ I.fresh⟩

theorem Reps.many {K : PySem.W.Frag} {S : Sto} {μ : Mu} {H : Hp} {ds : List D} {vs : List V} (h : Reps K S μ H ds vs) : ∀ m : Nat, Reps K S μ H (List.replicate m ds).flatten (List.replicate m vs).flatten
  | 0 => rfl
  | m + 1 => by
    rw [List.replicate_succ, List.replicate_succ, List.flatten_cons, List.flatten_cons]
    exact h.append (Reps.many h m)
/-- list * int, the list read -/
theorem times_list {a : Addr} {xs : List V} {j : Int} {t : Tok} (I : Inv X pins σ H s) (ha : SqP X.K H a xs) (j1 : -100000 ≤ j) (j2 : j ≤ 100000) (hz : xs.length * j.toNat ≤ sizeLine) (q : ∀ p, H p = none → Q (.ref p) (upd H p (.lst (List.replicate j.toNat xs).flatten))) :
    wpAny (model X.prog X.w) X.A (binaryOp .Mult (.ref a) (.int j t)) (EP X pins σ Q) X.xe s := by
  obtain ⟨z, us, m, r, hl, e⟩ := ha.plain I
  have hm : us.length = xs.length := r.length.symm
  have g1 : us.toArray.size * j.toNat ≤ sizeLine := by
    rw [List.size_toArray, hm]
    exact hz
  have g2 : ¬ us.toArray.size * j.toNat > (2 ^ 63 - 1) / 8 := by
    have z0 := sizeLine_eq
    omega
  have g3 : ¬ (!Builtin.List.listFitsIndex j) = true := by rw [fitsIndex_both (by omega) (by omega)]; exact Bool.false_ne_true
  have g4 : ¬ Builtin.List.listTooLong (us.toArray.size * j.toNat) = true := by rw [notLongL g1]; exact Bool.false_ne_true
  have g5 : ∀ m : Nat, List.foldl (fun x1 x2 => x1 ++ x2) #[] (List.replicate m us.toArray) = (List.replicate m us).flatten.toArray := fun m => by
    have := foldl_rep us m []
    simpa using this
  have g6 : List.foldl (fun x1 x2 => x1 ++ x2) #[] (List.replicate (if us.toArray.isEmpty = true then 0 else j.toNat) us.toArray) = (List.replicate j.toNat us).flatten.toArray := by
    rw [g5]
    by_cases hu : us = []
    · subst hu; simp
    · rw [if_neg (by simpa using hu)]
  refine wpAny_binaryOp_repeat_ref (T := "list") (U := "int") (by decide) ⟨_, e, rfl⟩ (fun st => typeIs_int st j t) noFill_list_mul F.fills_int_mul F.slot_int_rmul repeat_list F.slot_int_index.lookup ?_
  refine call_meets F.slot_int_rmul (typeIs_int s j t) F.entry_int_rmul (F.args_int_rmul_2 _ _) (int___rmul___int_list j t a us.toArray m) ⟨e, rfl, ⟨_, e, rfl⟩, ?_⟩
  refine call_meets F.slot_list_mul ⟨_, e, rfl⟩ F.entry_list_mul (F.args_list_mul_2 _ _) (AutoListH.list___mul___list_int_3 a us.toArray m j t g3 g2 g4) ⟨e, ?_⟩
  rw [g6]
  refine ⟨.ref _, _, I.lnew (t' := s.toks) (r.rep j.toNat) ?_, rfl, q _ I.fresh⟩
  rw [PyProof.Rows.lm_len_rep_flat, Nat.mul_comm]
  exact hz

/-- tuple + tuple -/
theorem cat_tups {a b : Addr} {xs ys : List V} (I : Inv X pins σ H s) (ha : SqT X.K H a xs) (hb : SqT X.K H b ys) (hz : xs.length + ys.length ≤ sizeLine) (q0 : xs = [] → Q (.ref b) H) (q1 : ys = [] → Q (.ref a) H)
    (q : ∀ p, H p = none → Q (.ref p) (upd H p (.tup (xs ++ ys)))) :
    wpAny (model X.prog X.w) X.A (binaryOp .Add (.ref a) (.ref b)) (EP X pins σ Q) X.xe s := by
  by_cases h : xs = []
  · subst h
    obtain ⟨its, r, ⟨⟨cls, dd, data, sl⟩, ho, hc, n, hd⟩, _⟩ := I.tuple ha
    obtain ⟨its2, r2, ⟨⟨cls2, dd2, data2, sl2⟩, ho2, hc2, n2, hd2⟩, _⟩ := I.tuple hb
    simp only at hc hd hc2 hd2
    subst hc hd hc2 hd2
    cases r
    exact concat_meets ⟨_, ho, rfl⟩ ⟨_, ho2, rfl⟩ noFill_tuple_add seq_tuple_add PySem.F.slot_tuple_add PySem.F.entry_tuple_add (PySem.F.args_tuple_add_2 _ _)
      (tuple_addW0 a b _ its2.toArray n n2 dd dd2 sl sl2 (by simp)) ⟨ho, ho2, ⟨.ref b, H, I.tok _, rfl, q0 rfl⟩⟩
  · exact op_catT pins s σ H (.ref a) (.ref b) _ _ Q I rfl rfl ⟨a, b, xs, ys, rfl, rfl, ha, hb, h, hz, q1, fun _ => q⟩

theorem natAbs_log {i : Int} {k : Nat} (h : i.natAbs < 2 ^ k) (hk : 0 < k) : i.natAbs.log2 < k := PySem.Flt.log2_lt_of hk h

/-- a op b -/
theorem opD_run {o : Operator} {x y z : D} (e : opD o x y = some z) (I : Inv X pins σ H s) (g : Good X.K S μ H) (hx : Seen X.K S μ H x v) (hy : Seen X.K S μ H y w) (r1 : RelV v u1) (r2 : RelV w u2) (k : Cont X.K S μ H z Q) :
    wpAny (model X.prog X.w) X.A (binaryOp o u1 u2) (EP X pins σ Q) X.xe s := by
  unfold opD at e
  split at e
  · cases e
    cases (show v = V.int _ from hx); cases (show w = V.int _ from hy)
    exact op_add pins s σ H _ _ u1 u2 Q I r1 r2 ⟨_, _, rfl, rfl, cont_here g k rfl⟩
  · cases e
    cases (show v = V.int _ from hx); cases (show w = V.int _ from hy)
    exact op_sub pins s σ H _ _ u1 u2 Q I r1 r2 ⟨_, _, rfl, rfl, cont_here g k rfl⟩
  · split at e
    · rename_i h
      cases e
      rw [Bool.or_eq_true, Bool.or_eq_true, Bool.and_eq_true, decide_eq_true_eq, decide_eq_true_eq, decide_eq_true_eq, decide_eq_true_eq] at h
      cases (show v = V.int _ from hx); cases (show w = V.int _ from hy)
      rcases h with h | h
      · exact op_mul pins s σ H _ _ u1 u2 Q I r1 r2 ⟨_, _, rfl, rfl, h.elim (fun z => .inl ⟨by omega, by omega⟩) (fun z => .inr ⟨by omega, by omega⟩), cont_here g k rfl⟩
      exact op_mulW pins s σ H _ _ u1 u2 Q I r1 r2 ⟨_, _, rfl, rfl, wide_mul h.1 h.2 (by decide) (by decide) (by decide), cont_here g k rfl⟩
    · cases e
  · split at e
    · rename_i h
      cases e
      rw [Bool.and_eq_true, decide_eq_true_eq, decide_eq_true_eq] at h
      cases (show v = V.int _ from hx); cases (show w = V.int _ from hy)
      exact op_fdivW pins s σ H _ _ u1 u2 Q I r1 r2 ⟨_, _, rfl, rfl, wide_div h.1 h.2 (by decide) (by decide), cont_here g k rfl⟩
    · cases e
  · split at e
    · rename_i h
      cases e
      rw [decide_eq_true_eq] at h
      cases (show v = V.int _ from hx); cases (show w = V.int _ from hy)
      exact op_mod pins s σ H _ _ u1 u2 Q I r1 r2 ⟨_, _, rfl, rfl, h, cont_here g k rfl⟩
    · cases e
  · split at e
    · rename_i h
      cases e
      rw [Bool.and_eq_true, Bool.and_eq_true, decide_eq_true_eq, decide_eq_true_eq, decide_eq_true_eq] at h
      cases (show v = V.int _ from hx); cases (show w = V.int _ from hy)
      exact op_pow pins s σ H _ _ u1 u2 Q I r1 r2 ⟨_, _, rfl, rfl, ⟨h.1.1, by have := h.1.2; omega, h.2⟩, cont_here g k rfl⟩
    · cases e
  · split at e
    · rename_i h
      cases e
      cases (show v = V.str _ from hx); cases (show w = V.str _ from hy)
      exact op_add_str pins s σ H _ _ u1 u2 Q I r1 r2 ⟨_, _, rfl, rfl, small_line h, cont_here g k rfl⟩
    · cases e
  · split at e
    · rename_i h
      cases e
      obtain ⟨a, vs, rfl, qa, ra⟩ := hx
      obtain ⟨b, ws, rfl, qb, rb⟩ := hy
      cases r1; cases r2
      have hl := small_line h
      rw [ra.length, rb.length] at hl
      refine cat_tups I qa qb hl (fun z => ?_) (fun z => ?_) (cont_tup g k (ra.append rb))
      · subst z
        have e0 := ra.length
        rw [List.length_nil, List.length_eq_zero_iff] at e0
        subst e0
        exact cont_here g k ⟨b, ws, rfl, qb, rb⟩
      · subst z
        have e0 := rb.length
        rw [List.length_nil, List.length_eq_zero_iff] at e0
        subst e0
        exact cont_here g k ⟨a, vs, rfl, qa, by rw [List.append_nil]; exact ra⟩
    · cases e
  · split at e
    · rename_i h
      cases e
      obtain ⟨a, vs, rfl, qa, ra⟩ := hx
      obtain ⟨b, ws, rfl, qb, rb⟩ := hy
      cases r1; cases r2
      have hl := small_line h
      rw [ra.length, rb.length] at hl
      exact cat_lists I qa qb hl (cont_lst g k (ra.append rb))
    · cases e
  · split at e
    · rename_i h
      cases e
      rw [Bool.and_eq_true, Bool.and_eq_true, Bool.and_eq_true, decide_eq_true_eq, decide_eq_true_eq, decide_eq_true_eq, decide_eq_true_eq] at h
      obtain ⟨a, vs, rfl, qa, ra⟩ := hx
      cases (show w = V.int _ from hy)
      have hl := ra.length
      refine op_repT pins s σ H _ _ u1 u2 Q I r1 r2 ⟨a, _, vs, rfl, rfl, qa, fun z => ?_, h.2.1, h.2.2, by omega, cont_tup g k (ra.many _)⟩
      rw [z] at hl
      have := h.1.1
      simp only [List.length_nil] at hl
      omega
    · cases e
  · split at e
    · rename_i h
      cases e
      rw [Bool.and_eq_true, Bool.and_eq_true, decide_eq_true_eq, decide_eq_true_eq] at h
      obtain ⟨a, vs, rfl, qa, ra⟩ := hx
      cases (show w = V.int _ from hy)
      cases r1
      obtain ⟨t, rfl⟩ := r2
      have hl := small_line h.1
      rw [ra.length] at hl
      exact times_list I qa h.2.1 h.2.2 hl (cont_lst g k (ra.many _))
    · cases e
  · cases e

/-- == of data -/
theorem eqD_run (hu : X.A.units + 190 < cLine) {x y : D} (ox : x.ok = true) (oy : y.ok = true) (I : Inv X pins σ H s) (hx : Seen X.K S μ H x v) (hy : Seen X.K S μ H y w) (r1 : RelV v u1) (r2 : RelV w u2) (q : Q (.bl (D.eqv x y)) H) :
    wpAny (model X.prog X.w) X.A (compareOp .Eq u1 u2) (EP X pins σ Q) X.xe s := by
  unfold D.ok at ox oy
  rw [Bool.and_eq_true, Bool.and_eq_true, decide_eq_true_eq] at ox oy
  obtain ⟨as, d1⟩ := Dp.reads I x.py v u1 (hx.dp ox.1.1) r1
  obtain ⟨bs, d2⟩ := Dp.reads I y.py w u2 (hy.dp oy.1.1) r2
  refine SeqAt.compareEq_reads d1 d2 ox.1.2 oy.1.2 ?_ ⟨.bl _, H, I, rfl, q⟩
  have h1 := ox.2
  have h2 : min x.py.depth y.py.depth ≤ x.py.depth := Nat.min_le_left _ _
  omega
theorem neD_run (hu : X.A.units + 190 < cLine) {x y : D} (ox : x.ok = true) (oy : y.ok = true) (I : Inv X pins σ H s) (hx : Seen X.K S μ H x v) (hy : Seen X.K S μ H y w) (r1 : RelV v u1) (r2 : RelV w u2) (q : Q (.bl (!D.eqv x y)) H) :
    wpAny (model X.prog X.w) X.A (compareOp .NotEq u1 u2) (EP X pins σ Q) X.xe s := by
  unfold D.ok at ox oy
  rw [Bool.and_eq_true, Bool.and_eq_true, decide_eq_true_eq] at ox oy
  obtain ⟨as, d1⟩ := Dp.reads I x.py v u1 (hx.dp ox.1.1) r1
  obtain ⟨bs, d2⟩ := Dp.reads I y.py w u2 (hy.dp oy.1.1) r2
  refine SeqAt.compareNe_reads d1 d2 ox.1.2 oy.1.2 ?_ ⟨.bl _, H, I, rfl, q⟩
  have h1 := ox.2
  have h2 : min x.py.depth y.py.depth ≤ x.py.depth := Nat.min_le_left _ _
  omega

theorem Seen.flat {x : D} (f : x.flat = true) (h : Seen X.K S μ H x v) : Rep X.K S μ H x v := by
  cases x with
  | lst _ => cases f
  | tup _ => cases f
  | ref _ => cases f
  | non => exact h
  | bl _ => exact h
  | int _ => exact h
  | str _ => exact h
theorem one_sign {c : Str} (h : (c.length == 1) = true) : c = ⟨#[c.cps.getD 0 0]⟩ := by
  obtain ⟨cps⟩ := c
  have e : cps.size = 1 := by simpa [Str.length] using h
  obtain ⟨l⟩ := cps
  simp only [List.size_toArray] at e
  match l, e with
  | [a], _ => rfl
/-- a op b, compared -/
theorem cmpD_run (hu : X.A.units + 190 < cLine) {o : CmpOp} {x y : D} {b : Bool} (e : cmpD o x y = some b) (I : Inv X pins σ H s) (hx : Seen X.K S μ H x v) (hy : Seen X.K S μ H y w) (r1 : RelV v u1) (r2 : RelV w u2) (q : Q (.bl b) H) :
    wpAny (model X.prog X.w) X.A (compareOp o u1 u2) (EP X pins σ Q) X.xe s := by
  cases o with
  | Eq =>
    simp only [cmpD] at e
    split at e
    · cases e
      cases (show v = V.int _ from hx); cases (show w = V.int _ from hy)
      refine op_eq pins s σ H _ _ u1 u2 Q I r1 r2 ⟨rfl, ?_⟩
      rw [show decide (V.int _ = V.int _) = decide (_ = _) from decide_eq_decide.mpr ⟨fun z => V.int.inj z, fun z => congrArg V.int z⟩]
      exact q
    · cases e
      cases (show v = V.str _ from hx); cases (show w = V.str _ from hy)
      refine op_eq pins s σ H _ _ u1 u2 Q I r1 r2 ⟨rfl, ?_⟩
      rw [show decide (V.str _ = V.str _) = decide (_ = _) from decide_eq_decide.mpr ⟨fun z => V.str.inj z, fun z => congrArg V.str z⟩]
      exact q
    · split at e
      · rename_i h
        cases e
        rw [Bool.and_eq_true] at h
        exact eqD_run hu h.1 h.2 I hx hy r1 r2 q
      · cases e
  | NotEq =>
    simp only [cmpD] at e
    split at e
    · cases e
      cases (show v = V.int _ from hx); cases (show w = V.int _ from hy)
      refine op_ne pins s σ H _ _ u1 u2 Q I r1 r2 ⟨rfl, ?_⟩
      rw [show decide (V.int _ = V.int _) = decide (_ = _) from decide_eq_decide.mpr ⟨fun z => V.int.inj z, fun z => congrArg V.int z⟩]
      exact q
    · cases e
      cases (show v = V.str _ from hx); cases (show w = V.str _ from hy)
      refine op_ne pins s σ H _ _ u1 u2 Q I r1 r2 ⟨rfl, ?_⟩
      rw [show decide (V.str _ = V.str _) = decide (_ = _) from decide_eq_decide.mpr ⟨fun z => V.str.inj z, fun z => congrArg V.str z⟩]
      exact q
    · split at e
      · rename_i h
        cases e
        rw [Bool.and_eq_true] at h
        exact neD_run hu h.1 h.2 I hx hy r1 r2 q
      · cases e
  | Lt =>
    simp only [cmpD] at e
    split at e
    · cases e
      cases (show v = V.int _ from hx); cases (show w = V.int _ from hy)
      exact op_lt pins s σ H _ _ u1 u2 Q I r1 r2 ⟨_, _, rfl, rfl, q⟩
    · cases e
  | LtE =>
    simp only [cmpD] at e
    split at e
    · cases e
      cases (show v = V.int _ from hx); cases (show w = V.int _ from hy)
      exact op_le pins s σ H _ _ u1 u2 Q I r1 r2 ⟨_, _, rfl, rfl, q⟩
    · cases e
  | Gt =>
    simp only [cmpD] at e
    split at e
    · cases e
      cases (show v = V.int _ from hx); cases (show w = V.int _ from hy)
      exact op_gt pins s σ H _ _ u1 u2 Q I r1 r2 ⟨_, _, rfl, rfl, q⟩
    · cases e
  | GtE =>
    simp only [cmpD] at e
    split at e
    · cases e
      cases (show v = V.int _ from hx); cases (show w = V.int _ from hy)
      exact op_ge pins s σ H _ _ u1 u2 Q I r1 r2 ⟨_, _, rfl, rfl, q⟩
    · cases e
  | Is =>
    simp only [cmpD] at e
    split at e
    · cases e
      cases (show v = V.bl _ from hx); cases (show w = V.bl _ from hy)
      exact op_isBl pins s σ H _ _ u1 u2 Q I r1 r2 ⟨_, _, rfl, rfl, q⟩
    · cases e
      cases (show v = V.non from hx); cases (show w = V.non from hy)
      exact op_isN pins s σ H _ _ u1 u2 Q I r1 r2 ⟨rfl, q⟩
    · rename_i hne
      cases e
      cases (show w = V.non from hy)
      have hv : v ≠ V.non := by
        intro z
        subst z
        cases x with
        | non => exact hne rfl
        | bl _ => cases (show V.non = V.bl _ from hx)
        | int _ => cases (show V.non = V.int _ from hx)
        | str _ => cases (show V.non = V.str _ from hx)
        | tup _ => obtain ⟨_, _, e, _⟩ := hx; cases e
        | lst _ => obtain ⟨_, _, e, _⟩ := hx; cases e
        | ref _ => obtain ⟨_, e, _⟩ := hx; cases e
      exact op_isN pins s σ H _ _ u1 u2 Q I r1 r2 ⟨rfl, by rw [decide_eq_false hv]; exact q⟩
    · cases e
  | IsNot =>
    simp only [cmpD] at e
    split at e
    · cases e
      cases (show v = V.bl _ from hx); cases (show w = V.bl _ from hy)
      exact op_notBl pins s σ H _ _ u1 u2 Q I r1 r2 ⟨_, _, rfl, rfl, q⟩
    · cases e
      cases (show v = V.non from hx); cases (show w = V.non from hy)
      exact op_notN pins s σ H _ _ u1 u2 Q I r1 r2 ⟨rfl, q⟩
    · rename_i hne
      cases e
      cases (show w = V.non from hy)
      have hv : v ≠ V.non := by
        intro z
        subst z
        cases x with
        | non => exact hne rfl
        | bl _ => cases (show V.non = V.bl _ from hx)
        | int _ => cases (show V.non = V.int _ from hx)
        | str _ => cases (show V.non = V.str _ from hx)
        | tup _ => obtain ⟨_, _, e, _⟩ := hx; cases e
        | lst _ => obtain ⟨_, _, e, _⟩ := hx; cases e
        | ref _ => obtain ⟨_, e, _⟩ := hx; cases e
      exact op_notN pins s σ H _ _ u1 u2 Q I r1 r2 ⟨rfl, by rw [decide_eq_false hv]; exact q⟩
    · cases e
  | In =>
    simp only [cmpD] at e
    split at e
    · split at e
      · rename_i h
        cases e
        rw [Bool.and_eq_true] at h
        obtain ⟨a, vs, rfl, qa, ra⟩ := hy
        have f := flat_rep h.1 (hx.flat h.1)
        refine op_in_seq pins s σ H _ _ u1 u2 Q I r1 r2 ⟨a, vs, rfl, .inl qa.l, f.1, flats_rep h.2 ra, ?_⟩
        rw [if_neg Bool.false_ne_true, inV_flat h.1 (hx.flat h.1) h.2 ra]
        exact q
      · cases e
    · split at e
      · rename_i h
        cases e
        rw [Bool.and_eq_true] at h
        obtain ⟨a, vs, rfl, qa, ra⟩ := hy
        have f := flat_rep h.1 (hx.flat h.1)
        refine op_in_seq pins s σ H _ _ u1 u2 Q I r1 r2 ⟨a, vs, rfl, .inr qa, f.1, flats_rep h.2 ra, ?_⟩
        rw [if_neg Bool.false_ne_true, inV_flat h.1 (hx.flat h.1) h.2 ra]
        exact q
      · cases e
    · split at e
      · split at e
        · rename_i h
          cases e
          cases (show v = V.str _ from hx); cases (show w = V.str _ from hy)
          exact op_in_sign pins s σ H _ _ u1 u2 Q I r1 r2 ⟨_, _, congrArg V.str (one_sign h), rfl, q⟩
        · cases e
      · cases e
    · cases e
  | NotIn =>
    simp only [cmpD] at e
    split at e
    · split at e
      · rename_i h
        cases e
        rw [Bool.and_eq_true] at h
        obtain ⟨a, vs, rfl, qa, ra⟩ := hy
        have f := flat_rep h.1 (hx.flat h.1)
        refine op_notIn_seq pins s σ H _ _ u1 u2 Q I r1 r2 ⟨a, vs, rfl, .inl qa.l, f.1, flats_rep h.2 ra, ?_⟩
        rw [if_pos rfl, inV_flat h.1 (hx.flat h.1) h.2 ra]
        exact q
      · cases e
    · split at e
      · rename_i h
        cases e
        rw [Bool.and_eq_true] at h
        obtain ⟨a, vs, rfl, qa, ra⟩ := hy
        have f := flat_rep h.1 (hx.flat h.1)
        refine op_notIn_seq pins s σ H _ _ u1 u2 Q I r1 r2 ⟨a, vs, rfl, .inr qa, f.1, flats_rep h.2 ra, ?_⟩
        rw [if_pos rfl, inV_flat h.1 (hx.flat h.1) h.2 ra]
        exact q
      · cases e
    · split at e
      · split at e
        · rename_i h
          cases e
          cases (show v = V.str _ from hx); cases (show w = V.str _ from hy)
          exact op_notIn_sign pins s σ H _ _ u1 u2 Q I r1 r2 ⟨_, _, congrArg V.str (one_sign h), rfl, q⟩
        · cases e
      · cases e
    · cases e

theorem Reps.atI {ds : List D} {vs : List V} (h : Reps X.K S μ H ds vs) {i : Int} {d : D} (e : atI ds i = some d) : ∃ v, L2.atI vs i = some v ∧ Rep X.K S μ H d v := by
  unfold L2.atI at e ⊢
  rw [← h.length]
  cases q : ixN ds.length i with
  | none => rw [q] at e; cases e
  | some j =>
    rw [q] at e
    exact h.get e
/-- x[i] -/
theorem ixD_run {value slice : Expr} {x i z : D} (e : ixD x i = some z) (I : Inv X pins σ H s) (g : Good X.K S μ H) (hx : Seen X.K S μ H x v) (hi : Rep X.K S μ H i w) (r1 : RelV v u1) (r2 : RelV w u2) (k : Cont X.K S μ H z Q)
    (hs : subscripted slice false u1 u2 = operate [u1, u2] (getItem u1 u2)) : wpAny (model X.prog X.w) X.A (subscriptTail value slice u1 u2) (EP X pins σ Q) X.xe s := by
  unfold ixD at e
  split at e
  · cases (show w = V.int _ from hi)
    obtain ⟨a, vs, rfl, qa, ra⟩ := hx
    obtain ⟨z', h1, h2⟩ := ra.atI e
    exact ix_list value slice pins s σ H _ _ u1 u2 Q I r1 r2 ⟨a, vs, _, z', rfl, rfl, qa.l, h1, cont_here g k h2⟩ hs
  · cases (show w = V.int _ from hi)
    obtain ⟨a, vs, rfl, qa, ra⟩ := hx
    obtain ⟨z', h1, h2⟩ := ra.atI e
    exact ix_tup value slice pins s σ H _ _ u1 u2 Q I r1 r2 ⟨a, vs, _, z', rfl, rfl, qa, h1, cont_here g k h2⟩ hs
  · cases (show w = V.int _ from hi)
    cases (show v = V.str _ from hx)
    split at e
    · rename_i h
      cases q : L2.atI _ _ with
      | none => rw [q] at e; cases e
      | some c =>
        rw [q] at e
        cases e
        exact ix_str value slice pins s σ H _ _ u1 u2 Q I r1 r2 ⟨_, _, c, rfl, rfl, small_line h, q, cont_here g k rfl⟩ hs
    · cases e
  · cases e
end
end Iv

set_option Elab.async false
set_option linter.all false
set_option maxRecDepth 100000
set_option maxHeartbeats 1000000
namespace Iv
open PySem PySem.Spec PyProof.Rows L2

section
variable {X : Cx} {pins : List (Addr × Obj)} {s : Shared} {σ : L2.St} {H : Hp} {S : Sto} {μ : Mu} {Q : VK}
/-- an item's value -/
def ItemR (K : PySem.W.Frag) (S : Sto) (μ : Mu) (H : Hp) (u : Value) (d : D) : Prop := ∃ v, RelV v u ∧ Rep K S μ H d v
theorem each_reps {K : PySem.W.Frag} : ∀ {us : List Value} {vs : List V} {ds : List D}, Vals vs us → Reps K S μ H ds vs → PySem.W.EachIs (ItemR K S μ H) us ds
  | us, vs, [], r, h => by
    cases (show vs = [] from h)
    cases r
    exact .nil
  | us, vs, d :: ds, r, ⟨v, vs', e, h1, h2⟩ => by
    subst e
    cases r with
    | cons r1 r2 => exact .cons ⟨v, r1, h1⟩ (each_reps r2 h2)
theorem reps_each {K : PySem.W.Frag} : ∀ {us : List Value} {ds : List D}, PySem.W.EachIs (ItemR K S μ H) us ds → ∃ vs, Vals vs us ∧ Reps K S μ H ds vs
  | _, _, .nil => ⟨[], .nil, rfl⟩
  | _, _, .cons ⟨v, r1, h1⟩ t => by
    obtain ⟨vs, r2, h2⟩ := reps_each t
    exact ⟨v :: vs, .cons r1 r2, v, vs, rfl, h1, h2⟩
theorem sortD_eq (xs : List D) : sortD xs = xs.mergeSort (PySem.W.dataLe false D.py) := by
  rw [PySem.W.dataLe_eq]
  rfl
theorem sortD_len (xs : List D) : (sortD xs).length = xs.length := (List.mergeSort_perm _ _).length_eq
/-- sorted of a list -/
theorem sort_run {a : Addr} {xs : List D} {ws : List V} {us : List Value} (hu : X.A.units + 200 < cLine) (h : sortOk xs = true) (I : Inv X pins σ H s) (r : Vals [V.ref a] us) (qa : SqP X.K H a ws) (ra : Reps X.K S μ H xs ws)
    (k : ∀ ws', Reps X.K S μ H (sortD xs) ws' → ∀ p, H p = none → Q (.ref p) (upd H p (.lst ws'))) : wpAny (model X.prog X.w) X.A (call (.builtin "sorted") us) (EP X pins σ Q) X.xe s := by
  unfold sortOk at h
  rw [Bool.and_eq_true, Bool.and_eq_true, Bool.and_eq_true, Bool.and_eq_true] at h
  obtain ⟨⟨⟨⟨h1, h2⟩, h3⟩, h4⟩, h5⟩ := h
  rw [Vals.ref1 r]
  obtain ⟨z, its, n, rv, hl, e⟩ := qa.plain I
  have hL : s.heap.IsList a its.toArray := ⟨_, e, rfl, n, rfl⟩
  have E1 := each_reps (S := S) (μ := μ) rv ra
  have er : PySem.W.EachIs (fun v d => ∃ as, PySem.Reads s.heap v d.py as) its xs := by
    refine (PySem.W.each_mem E1).mono fun u d ⟨⟨v, r1, r2⟩, hd⟩ => ?_
    have hp : D.pure d = true := by
      have : ∀ {l : List D}, D.pures l = true → ∀ x ∈ l, D.pure x = true := by
        intro l
        induction l with
        | nil => intro _ x hx; cases hx
        | cons y l ih =>
          intro hl x hx
          have hl' : (D.pure y && D.pures l) = true := hl
          rw [Bool.and_eq_true] at hl'
          rcases List.mem_cons.mp hx with rfl | hx
          · exact hl'.1
          · exact ih hl'.2 x hx
      exact this h2 d hd
    exact Dp.reads I d.py v u (Rep.dp hp r2) r1
  have hal : PySem.W.AllAlike (xs.map D.py) := by
    intro d hd d' hd'
    obtain ⟨b, hb, rfl⟩ := List.mem_map.mp hd
    obtain ⟨b', hb', rfl⟩ := List.mem_map.mp hd'
    exact List.all_eq_true.mp (List.all_eq_true.mp h3 b hb) b' hb'
  have hd0 : ∀ b, b ∈ xs → b.py.depth ≤ 100 := fun b hb => of_decide_eq_true (List.all_eq_true.mp h4 b hb)
  have hz : xs.length ≤ sizeLine := small_line h1
  have fin : ∀ out : List Value, out.length = xs.length → PySem.W.EachIs (ItemR X.K S μ H) out (xs.mergeSort (PySem.W.dataLe false D.py)) → EP X pins σ Q (.ref (s.heap.objs.size + 1)) { s with heap := sortedAll s.heap its (List.toArray out) } := fun out ol eo => by
    rw [← sortD_eq] at eo
    obtain ⟨ws', rw', rp⟩ := reps_each eo
    obtain ⟨ep, he'⟩ := PyProof.Rows.sortedAll_at s.heap its out.toArray
    exact ⟨.ref _, upd H (s.heap.objs.size + 1) (.lst ws'), I.laid (t' := s.toks) (fun _ _ => PyProof.Rows.sortedAll_old) (Nat.le_succ _) ⟨by rw [rw'.length, ol]; exact hz, out, ep, rw', he'⟩, rfl, k ws' rp _ (I.hok.fresh (Nat.le_succ _))⟩
  rw [Bool.or_eq_true, Bool.or_eq_true, Bool.and_eq_true] at h5
  rcases h5 with ⟨h5, h6⟩ | h5 | h5
  · have er' : PySem.W.EachIs (fun v d => ∃ as, PySem.Reads (PySem.W.sortingHeap (PySem.W.copyHeap s.heap its) (s.heap.objs.size + 1) its) v d.py as) its xs := er.mono fun _ _ ⟨as, q⟩ => ⟨as, PyProof.Rows.Reads.keeps (fun _ _ => PySem.W.sorting_copy_old) q⟩
    refine PySem.W.sorted_vals hL (sorts_tups0 (s := { s with heap := PySem.W.sortingHeap (PySem.W.copyHeap s.heap its) (s.heap.objs.size + 1) its }) (PySem.W.each_map (R := fun v d => ∃ as, PySem.Reads (PySem.W.sortingHeap (PySem.W.copyHeap s.heap its) (s.heap.objs.size + 1) its) v d as) D.py er') hal (fun d hd => ?_) ?_ (fun d hd => ?_)) (by rw [E1.length]; exact hz)
      (fin _ (by rw [PySem.W.sortVals_length false rfl]; exact E1.length) (PySem.W.sortVals_data false E1 er' hal))
    · obtain ⟨b, hb, rfl⟩ := List.mem_map.mp hd
      have q := List.all_eq_true.mp h6 b hb
      cases b with
      | tup l => exact ⟨_, rfl⟩
      | _ => cases q
    · cases xs with
      | nil => cases h5
      | cons b xs =>
        cases b with
        | tup l =>
          cases l with
          | nil => exact ⟨_, rfl⟩
          | cons _ _ => cases h5
        | _ => cases h5
    · obtain ⟨b, hb, rfl⟩ := List.mem_map.mp hd
      have := hd0 b hb
      show X.A.units + 1 + 1 + _ < cLine
      omega
  · refine PySem.W.sorted_data hL E1 er hal (.inr fun d hd => ?_) hz (fun b hb => ?_) fin
    · obtain ⟨b, hb, rfl⟩ := List.mem_map.mp hd
      have q := List.all_eq_true.mp h5 b hb
      cases b with
      | int i => exact ⟨by simp [D.py], fun xs => by simp [D.py]⟩
      | str i => exact ⟨by simp [D.py], fun xs => by simp [D.py]⟩
      | _ => cases q
    · have := hd0 b hb
      omega
  · refine PySem.W.sorted_data hL E1 er hal (.inl fun d hd => ?_) hz (fun b hb => ?_) fin
    · obtain ⟨b, hb, rfl⟩ := List.mem_map.mp hd
      have q := List.all_eq_true.mp h5 b hb
      cases b with
      | tup l =>
        cases l with
        | nil => cases q
        | cons x r => exact ⟨x.py, D.pys r, by simp [D.py, D.pys]⟩
      | _ => cases q
    · have := hd0 b hb
      omega
end
end Iv

set_option Elab.async false
set_option linter.all false
set_option maxRecDepth 100000
set_option maxHeartbeats 1000000
namespace Iv
open PySem PySem.Spec PyProof.Rows L2

section
variable {X : Cx} {pins : List (Addr × Obj)} {s : Shared} {σ : L2.St} {H : Hp} {S : Sto} {μ : Mu} {v w : V} {u1 u2 : Value} {Q : VK}

/-- slices -/
def rSlI (K : PySem.W.Frag) : V → Option Int → Option Int → Hp → VK → Prop := fun v lo hi H Q => ∃ S μ x z, Good K S μ H ∧ Seen K S μ H x v ∧ slD x lo hi = some z ∧ Cont K S μ H z Q
theorem sl_I : SlR X (rSlI X.K) := by
  intro pins s σ H v u vl vu lo hi sl Q I rx hs pl pu h
  obtain ⟨S, μ, x, z, g, hx, e, k⟩ := h
  unfold slD at e
  split at e
  · cases e
    obtain ⟨a, vs, rfl, qa, ra⟩ := hx
    exact sl_list pins s σ H _ u vl vu lo hi sl Q I rx hs pl pu ⟨a, vs, rfl, qa.l, cont_lst g k (ra.cut lo hi)⟩
  · rename_i xs
    cases e
    obtain ⟨a, vs, rfl, qa, ra⟩ := hx
    refine sl_tupA pins s σ H _ u vl vu lo hi sl Q I rx hs pl pu ⟨a, vs, rfl, qa, fun hw => ?_, fun _ => cont_tup g k (ra.cut lo hi)⟩
    have ew : cutV vs lo hi = vs := by
      unfold cutV
      rw [hw.1, hw.2, List.drop_zero, Nat.sub_zero, List.take_length]
    have rc := ra.cut lo hi
    rw [ew] at rc
    exact cont_here g k ⟨a, vs, rfl, qa, rc⟩
  · split at e
    · rename_i h
      cases e
      cases (show v = V.str _ from hx)
      exact sl_str pins s σ H _ u vl vu lo hi sl Q I rx hs pl pu ⟨_, rfl, small_line h, cont_here g k rfl⟩
    · cases e
  · cases e

def Seens (K : PySem.W.Frag) (S : Sto) (μ : Mu) (H : Hp) : List D → List V → Prop
  | [], vs => vs = []
  | d :: ds, vs => ∃ v r, vs = v :: r ∧ Seen K S μ H d v ∧ Seens K S μ H ds r
theorem seeAll_ok {K : PySem.W.Frag} (g : Good K S μ H) : ∀ {ds es : List D} {vs : List V}, Reps K S μ H ds vs → seeAll S ds = some es → Seens K S μ H es vs
  | [], _, _, h, e => by cases e; exact h
  | d :: ds, es, _, ⟨v, r, e1, h1, h2⟩, e => by
    unfold seeAll at e
    split at e
    · rename_i y ys e2 e3
      cases e
      exact ⟨v, r, e1, see_ok g h1 e2, seeAll_ok g h2 e3⟩
    · cases e
theorem reps_bls {K : PySem.W.Frag} : ∀ {ds : List D} {bs : List Bool} {vs : List V}, Reps K S μ H ds vs → bls? ds = some bs → vs = bs.map V.bl
  | [], _, _, h, e => by cases e; exact h
  | .bl b :: ds, bs, _, ⟨v, r, e1, h1, h2⟩, e => by
    simp only [bls?] at e
    cases q : bls? ds with
    | none => rw [q] at e; cases e
    | some cs =>
      rw [q] at e
      cases e
      subst e1
      rw [reps_bls h2 q]
      cases (show v = V.bl b from h1)
      rfl
  | .non :: ds, _, _, _, e => by cases e
  | .int _ :: ds, _, _, _, e => by cases e
  | .str _ :: ds, _, _, _, e => by cases e
  | .tup _ :: ds, _, _, _, e => by cases e
  | .lst _ :: ds, _, _, _, e => by cases e
  | .ref _ :: ds, _, _, _, e => by cases e
theorem reps_ints {K : PySem.W.Frag} : ∀ {ds : List D} {bs : List Int} {vs : List V}, Reps K S μ H ds vs → ints? ds = some bs → vs = bs.map V.int
  | [], _, _, h, e => by cases e; exact h
  | .int b :: ds, bs, _, ⟨v, r, e1, h1, h2⟩, e => by
    simp only [ints?] at e
    cases q : ints? ds with
    | none => rw [q] at e; cases e
    | some cs =>
      rw [q] at e
      cases e
      subst e1
      rw [reps_ints h2 q]
      cases (show v = V.int b from h1)
      rfl
  | .non :: ds, _, _, _, e => by cases e
  | .bl _ :: ds, _, _, _, e => by cases e
  | .str _ :: ds, _, _, _, e => by cases e
  | .tup _ :: ds, _, _, _, e => by cases e
  | .lst _ :: ds, _, _, _, e => by cases e
  | .ref _ :: ds, _, _, _, e => by cases e
theorem reps_strs {K : PySem.W.Frag} : ∀ {ds : List D} {bs : List Str} {vs : List V}, Reps K S μ H ds vs → strs? ds = some bs → vs = bs.map V.str
  | [], _, _, h, e => by cases e; exact h
  | .str b :: ds, bs, _, ⟨v, r, e1, h1, h2⟩, e => by
    simp only [strs?] at e
    cases q : strs? ds with
    | none => rw [q] at e; cases e
    | some cs =>
      rw [q] at e
      cases e
      subst e1
      rw [reps_strs h2 q]
      cases (show v = V.str b from h1)
      rfl
  | .non :: ds, _, _, _, e => by cases e
  | .bl _ :: ds, _, _, _, e => by cases e
  | .int _ :: ds, _, _, _, e => by cases e
  | .tup _ :: ds, _, _, _, e => by cases e
  | .lst _ :: ds, _, _, _, e => by cases e
  | .ref _ :: ds, _, _, _, e => by cases e

def biV : BI → Value
  | .len => .builtin "len"
  | .int => .type "int"
  | .abs => .builtin "abs"
  | .tuple => .type "tuple"
  | .list => .type "list"
  | .all => .builtin "all"
  | .any => .builtin "any"
  | .sum => .builtin "sum"
  | .max2 => .builtin "max"
  | .str => .type "str"
  | .repr => .builtin "repr"
  | .sorted => .builtin "sorted"
def rBi (K : PySem.W.Frag) (b : BI) : List V → Hp → VK → Prop := fun vs H Q => ∃ S μ ys z, Good K S μ H ∧ Seens K S μ H ys vs ∧ biD b ys = some z ∧ Cont K S μ H z Q
theorem seens1 {K : PySem.W.Frag} {d : D} {vs : List V} (h : Seens K S μ H [d] vs) : ∃ v, vs = [v] ∧ Seen K S μ H d v := by
  obtain ⟨v, r, e, h1, h2⟩ := h
  cases (show r = [] from h2)
  exact ⟨v, e, h1⟩
theorem seens2 {K : PySem.W.Frag} {d d' : D} {vs : List V} (h : Seens K S μ H [d, d'] vs) : ∃ v w, vs = [v, w] ∧ Seen K S μ H d v ∧ Seen K S μ H d' w := by
  obtain ⟨v, r, e, h1, h2⟩ := h
  obtain ⟨w, e2, h3⟩ := seens1 h2
  exact ⟨v, w, by rw [e, e2], h1, h3⟩
mutual
theorem noDict : ∀ {d : D}, d.py.hasDict = false
  | .non => by simp [D.py, PyData.hasDict]
  | .bl _ => by simp [D.py, PyData.hasDict]
  | .int _ => by simp [D.py, PyData.hasDict]
  | .str _ => by simp [D.py, PyData.hasDict]
  | .ref _ => by simp [D.py, PyData.hasDict]
  | .tup ds => by rw [D.py, PyData.hasDict]; exact noDicts
  | .lst ds => by rw [D.py, PyData.hasDict]; exact noDicts
theorem noDicts : ∀ {ds : List D}, PyData.hasDictAll (D.pys ds) = false
  | [] => by simp [D.pys, PyData.hasDictAll]
  | d :: ds => by rw [D.pys, PyData.hasDictAll, noDict, noDicts]; rfl
end
theorem repr_run {d : D} {us : List Value} (hg : X.A.guards = some []) (hu : X.A.units + 200 < cLine) (h : D.shows d = true) (I : Inv X pins σ H s) (r : Vals [v] us) (hv : Seen X.K S μ H d v) (k : Cont X.K S μ H (.str d.py.shown) Q) (g : Good X.K S μ H)
    (hd : ∃ a, v = .ref a := by first | exact ⟨_, hv.choose_spec.choose_spec.1⟩ | exact ⟨_, hv.choose_spec.choose_spec.1⟩) : wpAny (model X.prog X.w) X.A (call (.builtin "repr") us) (EP X pins σ Q) X.xe s := by
  obtain ⟨a, rfl⟩ := hd
  unfold D.shows at h
  rw [Bool.and_eq_true, Bool.and_eq_true, Bool.and_eq_true, Bool.and_eq_true, decide_eq_true_eq, decide_eq_true_eq] at h
  obtain ⟨⟨⟨⟨h1, h2⟩, h3⟩, h4⟩, h5⟩ := h
  obtain ⟨u, rfl, ru⟩ := r.one
  cases (show u = Value.ref a from ru)
  obtain ⟨as, d1⟩ := Dp.reads I d.py (.ref a) (.ref a) (hv.dp h1) rfl
  refine PySem.repr_of_reads' d1 h2 (fun z => by rw [noDict] at z; cases z) hg (by omega) (fun _ _ q => q) (fun h' u tk hk => ⟨.str _, H, I.kept (t' := tk) hk, ⟨_, rfl⟩, cont_here g k rfl⟩) ?_
  rw [sizeLine_eq]; omega
/-- list(text): its signs -/
theorem signs_reps {K : PySem.W.Frag} : ∀ cs : List Nat, Reps K S μ H (cs.map fun c => D.str ⟨#[c]⟩) (cs.map fun c => V.str ⟨#[c]⟩)
  | [] => rfl
  | _ :: cs => ⟨_, _, rfl, rfl, signs_reps cs⟩
theorem paired_ix {α β : Type} {F : α → β → Prop} : ∀ {xs : List α} {ys : List β}, xs.length = ys.length → (∀ (i : Nat) (x : α) (y : β), xs[i]? = some x → ys[i]? = some y → F x y) → Paired F xs ys
  | [], [], _, _ => .nil
  | [], _ :: _, h, _ => by cases h
  | _ :: _, [], h, _ => by cases h
  | x :: xs, y :: ys, h, k => .cons (k 0 x y rfl rfl) (paired_ix (by simpa using h) fun i a b h1 h2 => k (i + 1) a b (by simpa using h1) (by simpa using h2))
theorem signs_raw {z : Str} {t : Tok} (hc : X.calm = true) (h : small z.length = true) (I : Inv X pins σ H s) (q : ∀ p, H p = none → Q (.ref p) (upd H p (.lst (z.cps.toList.map fun c => V.str ⟨#[c]⟩)))) :
    wpAny (model X.prog X.w) X.A (call (.type "list") [.str z t]) (EP X pins σ Q) X.xe s := by
  have hz := small_line h
  refine PySem.call_list_str (I.ok.hd hc) z t (fun h' tk acc c hk ho hit => ?_) hz
  have rv : Vals (z.cps.toList.map fun c => V.str ⟨#[c]⟩) acc.toList := by
    refine paired_ix (by rw [List.length_map, Array.length_toList, Array.length_toList, hit.1]) fun i x y hx hy => ?_
    rw [Array.getElem?_toList] at hy
    obtain ⟨cc, u, h1, h2⟩ := hit.2 i y hy
    rw [List.getElem?_map, Array.getElem?_toList, h1] at hx
    cases hx
    exact ⟨u, h2⟩
  refine ⟨.ref s.heap.objs.size, _, I.laid (t' := tk) (o := .lst (z.cps.toList.map fun c => V.str ⟨#[c]⟩)) hk (Nat.le_refl _) ⟨by rw [List.length_map]; simpa [Str.length] using hz, acc.toList, c, rv, by simpa using ho⟩, rfl, q _ I.fresh⟩
theorem signs_run {z : Str} {t : Tok} (hc : X.calm = true) (h : small z.length = true) (I : Inv X pins σ H s) (g : Good X.K S μ H) (k : Cont X.K S μ H (.lst (z.cps.toList.map fun c => .str ⟨#[c]⟩)) Q) :
    wpAny (model X.prog X.w) X.A (call (.type "list") [.str z t]) (EP X pins σ Q) X.xe s := signs_raw hc h I (cont_lst g k (signs_reps _))
theorem strs_reps {K : PySem.W.Frag} : ∀ ss : List Str, Reps K S μ H (ss.map D.str) (ss.map V.str)
  | [] => rfl
  | x :: ss => ⟨.str x, ss.map V.str, rfl, rfl, strs_reps ss⟩
theorem sort_tup_run {a : Addr} {ss : List Str} {us : List Value} (hu : X.A.units + 200 < cLine) (h : ss.length ≤ 1000) (I : Inv X pins σ H s) (r : Vals [V.ref a] us) (qa : SqT X.K H a (ss.map V.str))
    (k : ∀ p, H p = none → Q (.ref p) (upd H p (.lst ((sortS ss).map V.str)))) : wpAny (model X.prog X.w) X.A (call (.builtin "sorted") us) (EP X pins σ Q) X.xe s := by
  obtain ⟨its, rv, ⟨o, ho, hc, n, hd⟩, _⟩ := I.tuple qa
  rw [Vals.ref1 r]
  refine sorted_tup (vs := its) (ys := ss) ⟨o, ho, hc, n, hd⟩ rv.strs h (by omega) fun out ho => ?_
  obtain ⟨ep, he'⟩ := PyProof.Rows.sortedAll_at s.heap its out.toArray
  have hlen : ((sortS ss).map V.str).length ≤ sizeLine := by rw [List.length_map, (sortS_is ss).length_eq, sizeLine_eq]; omega
  exact ⟨.ref _, upd H (s.heap.objs.size + 1) (.lst ((sortS ss).map V.str)), I.laid (t' := s.toks) (fun _ _ => PyProof.Rows.sortedAll_old) (Nat.le_succ _) ⟨hlen, out, ep, vals_of_strs ho, he'⟩, rfl, k _ (I.hok.fresh (Nat.le_succ _))⟩
theorem call_bi (hc : X.calm = true) (hg : X.A.guards = some []) (hu : X.A.units + 200 < cLine) (b : BI) : CallR X (biV b) (rBi X.K b) := by
  intro pins s σ H vs us Q I r h
  obtain ⟨S, μ, ys, z, g, hs, e, k⟩ := h
  unfold biD at e
  split at e
  · cases e
    obtain ⟨v, rfl, a, ws, rfl, qa, ra⟩ := seens1 hs
    exact call_len_seq pins s σ H _ us Q I r ⟨a, ws, rfl, .inl qa.l, cont_here g k (by rw [ra.length]; rfl)⟩
  · cases e
    obtain ⟨v, rfl, a, ws, rfl, qa, ra⟩ := seens1 hs
    exact call_len_seq pins s σ H _ us Q I r ⟨a, ws, rfl, .inr qa, cont_here g k (by rw [ra.length]; rfl)⟩
  · split at e
    · rename_i h
      cases e
      obtain ⟨v, rfl, hv⟩ := seens1 hs
      cases (show v = V.str _ from hv)
      exact call_len_str pins s σ H _ us Q I r ⟨_, rfl, small_line h, cont_here g k rfl⟩
    · cases e
  · cases e
    obtain ⟨v, rfl, hv⟩ := seens1 hs
    cases (show v = V.int _ from hv)
    exact call_int1 pins s σ H _ us Q I r (.inl ⟨_, rfl, cont_here g k rfl⟩)
  · cases e
    obtain ⟨v, rfl, hv⟩ := seens1 hs
    cases (show v = V.bl _ from hv)
    exact call_int1 pins s σ H _ us Q I r (.inr ⟨_, rfl, cont_here g k rfl⟩)
  · cases e
    obtain ⟨v, rfl, hv⟩ := seens1 hs
    cases (show v = V.int _ from hv)
    exact call_abs pins s σ H _ us Q I r ⟨_, rfl, cont_here g k rfl⟩
  · cases e
    obtain ⟨v, rfl, a, ws, rfl, qa, ra⟩ := seens1 hs
    exact call_tuple_of pins s σ H _ us Q I r ⟨a, ws, rfl, .inl ⟨qa.l, cont_tup g k ra⟩⟩
  · cases e
    obtain ⟨v, rfl, a, ws, rfl, qa, ra⟩ := seens1 hs
    exact call_tuple_of pins s σ H _ us Q I r ⟨a, ws, rfl, .inr ⟨qa, cont_here g k ⟨a, ws, rfl, qa, ra⟩⟩⟩
  · cases e
    obtain ⟨v, rfl, a, ws, rfl, qa, ra⟩ := seens1 hs
    exact call_list_of pins s σ H _ us Q I r ⟨a, ws, rfl, .inl qa.l, cont_lst g k ra⟩
  · cases e
    obtain ⟨v, rfl, a, ws, rfl, qa, ra⟩ := seens1 hs
    exact call_list_of pins s σ H _ us Q I r ⟨a, ws, rfl, .inr qa, cont_lst g k ra⟩
  · split at e
    · rename_i h
      cases e
      obtain ⟨v, rfl, hv⟩ := seens1 hs
      cases (show v = V.str _ from hv)
      obtain ⟨u, rfl, t, rfl⟩ := vals1 r
      exact signs_run hc h I g k
    · cases e
  · obtain ⟨bs, e1, rfl⟩ := Option.map_eq_some_iff.mp e
    obtain ⟨v, rfl, a, ws, rfl, qa, ra⟩ := seens1 hs
    have ew := reps_bls ra e1
    subst ew
    exact cr_all hc pins s σ H _ us Q I r ⟨a, bs, rfl, qa.l, cont_here g k rfl⟩
  · obtain ⟨bs, e1, rfl⟩ := Option.map_eq_some_iff.mp e
    obtain ⟨v, rfl, a, ws, rfl, qa, ra⟩ := seens1 hs
    have ew := reps_bls ra e1
    subst ew
    exact cr_any hc pins s σ H _ us Q I r ⟨a, bs, rfl, qa.l, cont_here g k rfl⟩
  · obtain ⟨bs, e1, rfl⟩ := Option.map_eq_some_iff.mp e
    obtain ⟨v, rfl, a, ws, rfl, qa, ra⟩ := seens1 hs
    have ew := reps_ints ra e1
    subst ew
    exact cr_sum hc pins s σ H _ us Q I r ⟨a, bs, rfl, qa.l, cont_here g k rfl⟩
  · obtain ⟨bs, e1, rfl⟩ := Option.map_eq_some_iff.mp e
    obtain ⟨v, rfl, a, ws, rfl, qa, ra⟩ := seens1 hs
    have ew := reps_ints ra e1
    subst ew
    obtain ⟨its, rv, ht, _⟩ := I.tuple qa
    rw [Vals.ref1 r]
    obtain ⟨xs, e⟩ := rv.ints.allInts.items
    have hn : numsOf (PySem.intItems xs).toList = bs := by rw [← e]; exact rv.ints.numsOf
    rw [PySem.nums_intItems] at hn
    have ht2 : s.heap.IsTuple a (PySem.intItems xs) := by rw [← e]; exact ht
    refine PySem.W.ktm_sumG (I.ok.hd hc) ht2 fun h' tk t' hk => ?_
    rw [preSum_eq, List.take_of_length_le (by simp), hn]
    exact ⟨.int _, H, I.kept hk, ⟨_, rfl⟩, k _ _ g (Evo.refl _ _ _) rfl⟩
  · cases e
    obtain ⟨v, w, rfl, hv, hw⟩ := seens2 hs
    cases (show v = V.int _ from hv)
    cases (show w = V.int _ from hw)
    exact call_max2 hc pins s σ H _ us Q I r ⟨_, _, rfl, cont_here g k rfl⟩
  · split at e
    · rename_i h
      cases e
      rw [decide_eq_true_eq] at h
      obtain ⟨v, rfl, hv⟩ := seens1 hs
      cases (show v = V.int _ from hv)
      exact call_str_int pins s σ H _ us Q I r ⟨_, rfl, by have := natAbs_log h (by decide); omega, cont_here g k rfl⟩
    · cases e
  · split at e
    · rename_i h
      cases e
      obtain ⟨v, rfl, hv⟩ := seens1 hs
      exact repr_run hg hu h I r hv k g
    · cases e
  · split at e
    · rename_i h
      cases e
      obtain ⟨v, rfl, hv⟩ := seens1 hs
      exact repr_run hg hu h I r hv k g
    · cases e
  · rename_i b0
    cases e
    obtain ⟨v, rfl, hv⟩ := seens1 hs
    cases (show v = V.bl _ from hv)
    obtain ⟨u, rfl, ru⟩ := r.one
    cases (show u = Value.bool _ from ru)
    have k2 : Q (.str (D.bl b0).py.shown) H := cont_here g k rfl
    exact PySem.P.repr_of_bool ⟨.str _, H, I.tok _, ⟨_, rfl⟩, k2⟩
  · split at e
    · rename_i h
      cases e
      obtain ⟨v, rfl, hv⟩ := seens1 hs
      cases (show v = V.str _ from hv)
      obtain ⟨u, rfl, t, rfl⟩ := vals1 r
      have k2 := cont_here g k rfl
      exact PySem.P.repr_of_str ⟨.str _, H, I.tok _, ⟨_, rfl⟩, k2⟩ (small_line h)
    · cases e
  · split at e
    · rename_i h
      cases e
      obtain ⟨v, rfl, hv⟩ := seens1 hs
      obtain ⟨a, ws, rfl, qa, ra⟩ := hv
      exact sort_run hu h I r qa ra (fun ws' r' => cont_lst g k r')
    · cases e
  · split at e
    · rename_i ss hss
      split at e
      · rename_i h
        rw [decide_eq_true_eq] at h
        cases e
        obtain ⟨v, rfl, hv⟩ := seens1 hs
        obtain ⟨a, ws, rfl, qa, ra⟩ := hv
        have ew := reps_strs ra hss
        subst ew
        exact sort_tup_run hu h I r qa (fun p hp => cont_lst g k (strs_reps _) p hp)
      · cases e
    · cases e
  · cases e

def meId : ME → String
  | .append => "list.append"
  | .pop => "list.pop"
  | .popAt => "list.pop"
  | .extend => "list.extend"
  | .index => "list.index"
  | .join => "str.join"
  | .lower => "str.lower"
  | .isalpha => "str.isalpha"
  | .isalnum => "str.isalnum"
/-- behind an operation that may change the store -/
abbrev ContS (K : PySem.W.Frag) (S : Sto) (μ : Mu) (H : Hp) (S' : Sto) (z : D) (Q : VK) : Prop := ∀ v' μ' H', Good K S' μ' H' → Evo S μ H S' μ' H' → Rep K S' μ' H' z v' → Q v' H'
def rMk (K : PySem.W.Frag) : List V → Hp → VK → Prop := fun vs H Q => ∃ S μ ys zs S' d, Good K S μ H ∧ Seens K S μ H ys vs ∧ biD .list ys = some (.lst zs) ∧ mkList true zs S = some (d, S') ∧ ContS K S μ H S' d Q
/-- list(x) that will change -/
theorem call_mk (hc : X.calm = true) : CallR X (.type "list") (rMk X.K) := by
  intro pins s σ H vs us Q I r h
  obtain ⟨S, μ, ys, zs, S', d, g, hs, e, em, k⟩ := h
  unfold mkList at em
  rw [if_pos rfl] at em
  cases em
  have key : ∀ vs', Reps X.K S μ H zs vs' → ∀ p, H p = none → Q (.ref p) (upd H p (.lst vs')) := fun vs' rz p hn => k _ _ _ (good_mk g hn rz) (evo_mk g hn) ⟨p, rfl, get_last g.len⟩
  match ys, hs, e with
  | [.lst xs], hs, e =>
    cases e
    obtain ⟨v, rfl, a, ws, rfl, qa, ra⟩ := seens1 hs
    exact call_list_of pins s σ H _ us Q I r ⟨a, ws, rfl, .inl qa.l, key _ ra⟩
  | [.tup xs], hs, e =>
    cases e
    obtain ⟨v, rfl, a, ws, rfl, qa, ra⟩ := seens1 hs
    exact call_list_of pins s σ H _ us Q I r ⟨a, ws, rfl, .inr qa, key _ ra⟩
  | [.str z], hs, e =>
    have e2 : (if small z.length = true then some (D.lst (z.cps.toList.map fun c => .str ⟨#[c]⟩)) else none) = some (D.lst zs) := e
    split at e2
    · rename_i h
      cases e2
      obtain ⟨v, rfl, hv⟩ := seens1 hs
      cases (show v = V.str _ from hv)
      obtain ⟨u, rfl, t, rfl⟩ := vals1 r
      exact signs_raw hc h I (key _ (signs_reps _))
    · cases e2
  | [.int _], hs, e => cases e
  | [.bl _], hs, e => cases e
  | [.non], hs, e => cases e
  | [.ref _], hs, e => cases e
  | [], hs, e => cases e
  | _ :: _ :: _, hs, e => simp [biD] at e
theorem pures_append : ∀ {xs ys : List D}, D.pures xs = true → D.pures ys = true → D.pures (xs ++ ys) = true
  | [], _, _, h => h
  | x :: xs, ys, h, h' => by
    have p : (D.pure x && D.pures xs) = true := h
    rw [Bool.and_eq_true] at p
    show (D.pure x && D.pures (xs ++ ys)) = true
    rw [Bool.and_eq_true]
    exact ⟨p.1, pures_append p.2 h'⟩
theorem pures_mem : ∀ {xs : List D}, D.pures xs = true ↔ ∀ x ∈ xs, D.pure x = true
  | [] => by simp [D.pures]
  | x :: xs => by
    have ih := pures_mem (xs := xs)
    show (D.pure x && D.pures xs) = true ↔ _
    rw [Bool.and_eq_true, ih]
    simp
theorem pures_sub {xs ys : List D} (h : D.pures xs = true) (k : ∀ y ∈ ys, y ∈ xs) : D.pures ys = true := pures_mem.mpr fun y hy => pures_mem.mp h y (k y hy)
theorem pures_set {xs : List D} {j : Nat} {x : D} (h : D.pures xs = true) (hx : D.pure x = true) : D.pures (xs.set j x) = true :=
  pures_mem.mpr fun y hy => by
    rcases List.mem_or_eq_of_mem_set hy with z | z
    · exact pures_mem.mp h y z
    · rw [z]; exact hx
def rMe (K : PySem.W.Frag) (m : ME) : V → List V → Hp → VK → Prop := fun v vs H Q => ∃ S μ o ys S' z, Good K S μ H ∧ Rep K S μ H o v ∧ Reps K S μ H ys vs ∧ meD m o ys S = some (z, S') ∧ ContS K S μ H S' z Q
theorem reps1 {K : PySem.W.Frag} {d : D} {vs : List V} (h : Reps K S μ H [d] vs) : ∃ v, vs = [v] ∧ Rep K S μ H d v := by
  obtain ⟨v, r, e, h1, h2⟩ := h
  cases (show r = [] from h2)
  exact ⟨v, e, h1⟩
theorem extend_run {l b : Addr} {xs zs : List V} (I : Inv X pins σ H s) (hH : H l = some (.lst xs)) (hB : SqP X.K H b zs) (hz : xs.length + zs.length ≤ sizeLine) (q : Q .non (upd H l (.lst (xs ++ zs)))) :
    wpAny (model X.prog X.w) X.A (call (.builtin "list.extend") [.ref l, .ref b]) (EP X pins σ Q) X.xe s := by
  obtain ⟨z, its, n, r, hl, e⟩ := I.lstM hH
  obtain ⟨z2, its2, n2, r2, hl2, e2⟩ := hB.plain I
  have hsz : its.toArray.size + its2.toArray.size ≤ sizeLine := by rw [List.size_toArray, List.size_toArray]; omega
  have hlong : ¬ (!its.toArray.isEmpty && Builtin.List.listTooLong (its.toArray.size + its2.toArray.size)) = true := by
    rw [notLongL hsz, Bool.and_false]
    exact Bool.false_ne_true
  refine call_meets F.slot_list_extend ⟨_, e, rfl⟩ F.entry_list_extend (F.args_list_extend_2 _ _)
    (AutoSeq1.list_extend_list_list_0 l its.toArray n b its2.toArray n2 hlong (by rw [List.size_toArray]; omega) (by omega)) ⟨e, e2, ?_⟩
  refine ⟨.non, _, I.lset (its' := its ++ its2) hH e (by simp) (r.append r2) ?_, rfl, q⟩
  rw [List.length_append]
  omega
theorem ixN_bounds {n : Nat} {i : Int} {j : Nat} (h : ixN n i = some j) (hn : n ≤ 100000) : -(2 ^ 63) ≤ i ∧ i < 2 ^ 63 ∧ seqIndex? i n = some j := by
  obtain ⟨h1, h2, h3, h4⟩ := ixN_seq h
  exact ⟨by omega, by omega, h1⟩
theorem me_run (m : ME) : MtR X (meId m) (rMe X.K m) := by
  intro pins s σ H v vs u us Q I rv r h
  obtain ⟨S, μ, o, ys, S', z, g, ho, hs, e, k⟩ := h
  unfold meD at e
  split at e
  · -- append
    split at e
    · rename_i x _ ys hS
      split at e
      · rename_i hc
        cases e
        obtain ⟨a, rfl, ma⟩ := ho
        obtain ⟨b, ws, mb, hb, rr⟩ := g.at_ _ _ hS
        rw [ma] at mb; cases mb
        obtain ⟨w, rfl, hw⟩ := reps1 hs
        have hl := small_lt hc
        rw [rr.length] at hl
        have r2 : Reps X.K S μ H (ys ++ [x]) (ws ++ [w]) := rr.append ⟨w, [], rfl, hw, rfl⟩
        exact mt_append pins s σ H _ _ u us Q I rv r ⟨a, ws, w, rfl, rfl, hb, hl, k _ _ _ (good_put g hS ma r2) (evo_put g hS ma) rfl⟩
      · cases e
    · cases e
  · -- extend
    split at e
    · rename_i x _ ys hS
      split at e
      · rename_i hc
        cases e
        obtain ⟨a, rfl, ma⟩ := ho
        obtain ⟨b, ws, mb, hb, rr⟩ := g.at_ _ _ hS
        rw [ma] at mb; cases mb
        obtain ⟨w, rfl, hw⟩ := reps1 hs
        obtain ⟨c, zs, rfl, qc, rc⟩ := hw.lsR
        have hl := small_line hc
        rw [rr.length, rc.length] at hl
        obtain ⟨u2, rfl, ru⟩ := r.one
        cases (show u2 = Value.ref c from ru)
        cases (show u = Value.ref a from rv)
        exact extend_run I hb qc hl (k _ _ _ (good_put g hS ma (rr.append rc)) (evo_put g hS ma) rfl)
      · cases e
    · cases e
  · -- pop
    split at e
    · rename_i ys hS
      split at e
      · rename_i y hy
        cases e
        obtain ⟨a, rfl, ma⟩ := ho
        obtain ⟨b, ws, mb, hb, rr⟩ := g.at_ _ _ hS
        rw [ma] at mb; cases mb
        obtain ⟨w, hw, rw'⟩ := rr.get hy
        rw [rr.length] at hw
        cases (show vs = [] from hs)
        have ev := evo_put (o := .lst ws.dropLast) (ys := ys.dropLast) g hS ma
        exact mt_pop pins s σ H _ _ u us Q I rv r ⟨a, ws, w, rfl, rfl, hb, hw, k _ _ _ (good_put g hS ma rr.dropLast) ev (rw'.mono g ev.w)⟩
      · cases e
    · cases e
  · -- pop(i)
    split at e
    · rename_i ys hS
      split at e
      · rename_i j hj
        split at e
        · rename_i hc
          split at e
          · rename_i y hy
            cases e
            obtain ⟨a, rfl, ma⟩ := ho
            obtain ⟨b, ws, mb, hb, rr⟩ := g.at_ _ _ hS
            rw [ma] at mb; cases mb
            obtain ⟨w, hw, rw'⟩ := rr.get hy
            obtain ⟨w1, rfl, hw1⟩ := reps1 hs
            cases (show w1 = V.int _ from hw1)
            obtain ⟨b1, b2, b3⟩ := ixN_bounds hj (small_le hc)
            rw [rr.length] at b3
            have ev := evo_put (o := .lst (ws.eraseIdx j)) (ys := ys.eraseIdx j) g hS ma
            exact mt_popAt pins s σ H _ _ u us Q I rv r ⟨a, ws, _, j, w, rfl, rfl, hb, b1, b2, b3, hw, k _ _ _ (good_put g hS ma (rr.eraseIdx j)) ev (rw'.mono g ev.w)⟩
          · cases e
        · cases e
      · cases e
    · cases e
  · -- index
    rename_i ys x
    split at e
    · rename_i hc
      rw [Bool.and_eq_true] at hc
      split at e
      · rename_i j hj
        cases e
        obtain ⟨a, ws, rfl, qa, ra⟩ := ho.lsR
        obtain ⟨w, rfl, hw⟩ := reps1 hs
        obtain ⟨hlt, h1, h2⟩ := List.findIdx?_eq_some_iff_getElem.mp hj
        obtain ⟨z, hz, rz⟩ := ra.get (List.getElem?_eq_getElem hlt)
        have fl : ∀ i (hi : i < ys.length), ys[i].flat = true := fun i hi => List.all_eq_true.mp hc.2 _ (List.getElem_mem hi)
        refine mt_index pins s σ H _ _ u us Q I rv r ⟨a, ws, w, j, z, rfl, rfl, qa.l, (flat_rep hc.1 hw).1, flats_rep hc.2 ra, hz, ?_, fun m z' hm hz' => ?_, k _ _ _ g (Evo.refl _ _ _) rfl⟩
        · rw [eqv_flat (fl j hlt) hc.1 rz hw]; exact h1
        · have hml : m < ys.length := by omega
          obtain ⟨z2, hz2, rz2⟩ := ra.get (List.getElem?_eq_getElem hml)
          rw [hz'] at hz2; cases hz2
          rw [eqv_flat (fl m hml) hc.1 rz2 hw]
          have := h2 m hm
          simpa using this
      · cases e
    · cases e
  · -- join
    split at e
    · rename_i ss hss
      split at e
      · rename_i hc
        cases e
        cases (show v = V.str _ from ho)
        obtain ⟨w, rfl, hw⟩ := reps1 hs
        obtain ⟨c, zs, rfl, qc, rc⟩ := hw.lsR
        have ew := reps_strs rc hss
        subst ew
        refine mt_join pins s σ H _ _ u us Q I rv r ⟨_, c, ss, rfl, rfl, .inl qc.l, by have := small_le hc; omega, k _ _ _ g (Evo.refl _ _ _) rfl⟩
      · cases e
    · cases e
  · -- lower
    split at e
    · rename_i hc
      cases e
      cases (show v = V.str _ from ho)
      cases (show vs = [] from hs)
      exact mt_lower pins s σ H _ _ u us Q I rv r ⟨_, rfl, rfl, by have := small_le hc; omega, k _ _ _ g (Evo.refl _ _ _) rfl⟩
    · cases e
  · cases e
    cases (show v = V.str _ from ho)
    cases (show vs = [] from hs)
    exact mt_isalpha pins s σ H _ _ u us Q I rv r ⟨_, rfl, rfl, trivial, k _ _ _ g (Evo.refl _ _ _) rfl⟩
  · cases e
    cases (show v = V.str _ from ho)
    cases (show vs = [] from hs)
    exact mt_isalnum pins s σ H _ _ u us Q I rv r ⟨_, rfl, rfl, trivial, k _ _ _ g (Evo.refl _ _ _) rfl⟩
  · cases e

def tyS : Ty → String
  | .int => "int"
  | .bool => "bool"
  | .str => "str"
  | .list => "list"
  | .tuple => "tuple"
theorem kit_ty2 (K : PySem.W.Frag) (a b : Ty) : PySem.W.kitOne K (.type (tyS a)) (.type (tyS b)) = some (a == b || (a == .bool && b == .int)) := by
  cases a <;> cases b <;> kernel_rfl
theorem kit_ty3 (K : PySem.W.Frag) (b : Ty) : PySem.W.kitOne K (.type "NoneType") (.type (tyS b)) = some false := by
  cases b <;> kernel_rfl
theorem kit_isTy {K : PySem.W.Frag} {d : D} (t : Ty) : PySem.W.kitOne K (match tyOf d with | some u => .type (tyS u) | none => .type "NoneType") (.type (tyS t)) = some (isTy d t) := by
  unfold isTy
  cases tyOf d with
  | none => exact kit_ty3 K t
  | some u => exact kit_ty2 K u t
theorem kit_any {K : PySem.W.Frag} {d : D} : ∀ ts : List Ty, PySem.W.kitAny K (match tyOf d with | some u => .type (tyS u) | none => .type "NoneType") (ts.map fun t => Value.type (tyS t)) = some (ts.any (isTy d))
  | [] => rfl
  | t :: ts => by
    have e := kit_isTy (K := K) (d := d) t
    have ih := kit_any (K := K) (d := d) ts
    rw [List.map_cons, PySem.W.kitAny, e, List.any_cons]
    cases isTy d t with
    | true => rfl
    | false => exact ih
theorem ty_of {d : D} (nr : ∀ i, d ≠ .ref i) (h : Seen X.K S μ H d v) : TyX X.K H v (match tyOf d with | some u => .type (tyS u) | none => .type "NoneType") := by
  cases d with
  | non => cases (show v = V.non from h); exact .base .non
  | bl b => cases (show v = V.bl b from h); exact .base (.bl b)
  | int i => cases (show v = V.int i from h); exact .base (.int i)
  | str x => cases (show v = V.str x from h); exact .base (.str x)
  | tup ds =>
    obtain ⟨a, vs, rfl, q, _⟩ := h
    rcases q with (q | ⟨o, q⟩) | ⟨o, its, n, hk, hc, _⟩
    · exact .base (.tup q)
    · exact .fTuple q
    · exact .kTuple hk hc
  | lst ds =>
    obtain ⟨a, vs, rfl, q, _⟩ := h
    rcases q with (q | ⟨o, q⟩) | ⟨its, n, hk, _⟩
    · exact .base (.lst q)
    · exact .base (.frz q)
    · exact .kList hk rfl
  | ref i => exact absurd rfl (nr i)
theorem see_noref {S : Sto} {d d' : D} (e : see S d = some d') : ∀ i, d' ≠ .ref i := by
  intro i z
  subst z
  cases d with
  | ref j =>
    simp only [see] at e
    split at e
    · cases e
    · cases e
  | _ => cases e
end
end Iv

set_option Elab.async false
set_option linter.all false
set_option maxRecDepth 100000
set_option maxHeartbeats 1000000
namespace Iv
open PySem PySem.Spec PyProof.Rows L2

/-- an expression's reading -/
def tE (K : PySem.W.Frag) (F : CF) (e : E) : TE := fun σ H Q => ∃ (ρ : Env) (S : Sto) (μ : Mu) (d : D) (S' : Sto), Good K S μ H ∧ RelS K S μ H ρ σ ∧ ev F e ρ S = some (d, S') ∧ ContS K S μ H S' d Q
def tT (K : PySem.W.Frag) (F : CF) (e : E) : TT := fun σ H Q => ∃ (ρ : Env) (S : Sto) (μ : Mu) (b : Bool) (S' : Sto), Good K S μ H ∧ RelS K S μ H ρ σ ∧ ev F e ρ S = some (.bl b, S') ∧
  ∀ μ' H', Good K S' μ' H' → Evo S μ H S' μ' H' → Q b H'
def tA (K : PySem.W.Frag) (F : CF) (es : Es) : TA := fun σ H Q => ∃ (ρ : Env) (S : Sto) (μ : Mu) (xs : List D) (S' : Sto), Good K S μ H ∧ RelS K S μ H ρ σ ∧ evs F es ρ S = some (xs, S') ∧
  ∀ vs μ' H', Good K S' μ' H' → Evo S μ H S' μ' H' → Reps K S' μ' H' xs vs → Q vs H'

theorem PE.weak {X : Cx} {e : Expr} {t t' : TE} (h : PE X e t) (k : ∀ σ H Q, t' σ H Q → t σ H Q) : PE X e t' := ⟨fun pins s σ H Q I q => h.run pins s σ H Q I (k σ H Q q)⟩
theorem PT.weak {X : Cx} {e : Expr} {t t' : TT} (h : PT X e t) (k : ∀ σ H Q, t' σ H Q → t σ H Q) : PT X e t' := ⟨fun pins s σ H Q I q => h.run pins s σ H Q I (k σ H Q q)⟩

/-- what is known of the code that runs -/
structure Cok (X : Cx) : Prop where
  nd : X.N.Nodup
  calm : X.calm = true
  gd : X.A.guards = some []
  un : X.A.units + 200 < cLine

section
variable {X : Cx} {F : CF} {a b c e : Expr} {es : List Expr} {ia ib ic ie : E} {ies : Es} {pos : Pos}

theorem i_v {i : Nat} {x : Str} (hN : X.N[i]? = some x) (hv : Vis X.env.scope x) (hd : (x == ("__debug__" : Str)) = false := by decide) (hcd : (x == ("__classdict__" : Str)) = false := by decide) : PE X (.Name x pos) (tE X.K F (.v i)) :=
  PE.weak (pe_var hN hv hd hcd) fun σ H Q ⟨ρ, S, μ, d, S', g, r, q, k⟩ => by
    simp only [ev] at q
    split at q
    · rename_i d' hd'
      cases q
      obtain ⟨v, h1, h2⟩ := r.at_ i _ hd'
      exact ⟨v, h1, k v μ H g (Evo.refl _ _ _) h2⟩
    · cases q
theorem i_frz {i : Nat} {x : Str} (hN : X.N[i]? = some x) (hv : Vis X.env.scope x) (hd : (x == ("__debug__" : Str)) = false := by decide) (hcd : (x == ("__classdict__" : Str)) = false := by decide) : PE X (.Name x pos) (tE X.K F (.frz i)) :=
  PE.weak (pe_var hN hv hd hcd) fun σ H Q ⟨ρ, S, μ, d, S', g, r, q, k⟩ => by
    simp only [ev] at q
    split at q
    · rename_i j hj
      split at q
      · rename_i xs hS
        cases q
        obtain ⟨v, h1, h2⟩ := r.at_ i _ hj
        exact ⟨v, h1, k v μ H (good_drop g) evo_drop (rep_drop g hS h2)⟩
      · cases q
    · cases q
theorem i_c {d : D} {v : V} (h : PE X e (tC v)) (r : ∀ S μ H, Rep X.K S μ H d v) : PE X e (tE X.K F (.c d)) :=
  PE.weak h fun σ H Q ⟨ρ, S, μ, d', S', g, _, q, k⟩ => by
    simp only [ev] at q
    cases q
    exact k v μ H g (Evo.refl _ _ _) (r _ _ _)
theorem i_int {i : Int} {j : Nat} : PE X (.Constant (.int i) j pos) (tE X.K F (.c (.int i))) := i_c pe_int fun _ _ _ => rfl
theorem i_bl {b : Bool} {j : Nat} : PE X (.Constant (.bool b) j pos) (tE X.K F (.c (.bl b))) := i_c pe_bl fun _ _ _ => rfl
theorem i_non {j : Nat} : PE X (.Constant .none j pos) (tE X.K F (.c .non)) := i_c pe_non fun _ _ _ => rfl
theorem i_str {x : Str} {j : Nat} : PE X (.Constant (.str x) j pos) (tE X.K F (.c (.str x))) := i_c pe_str fun _ _ _ => rfl
/-- an expression that is never reached -/
theorem i_bad {e : Expr} : PE X e (tE X.K F (.neg (.c .non))) := ⟨fun pins s σ H Q I ⟨ρ, S, μ, d, S', g, _, q, _⟩ => by
  simp only [ev] at q
  cases q⟩
/-- a constant of the module -/
structure GlobOk (K : PySem.W.Frag) (mg : Str → Option Value) (x : Str) (d : D) : Prop where
  ex : ∃ u v, mg x = some u ∧ RelV v u ∧ ∀ S μ H, Rep K S μ H d v
theorem i_g {x : Str} {d : D} (hg : Gl X x) (G : GlobOk X.K X.mg x d) (hd : (x == ("__debug__" : Str)) = false := by decide) : PE X (.Name x pos) (tE X.K F (.g x d)) := by
  obtain ⟨u, v, h1, h2, h3⟩ := G.ex
  exact PE.weak (pe_glob hg h1 h2 hd) fun σ H Q ⟨ρ, S, μ, d', S', g, _, q, k⟩ => by
    simp only [ev] at q
    cases q
    exact k v μ H g (Evo.refl _ _ _) (h3 _ _ _)

def rOp (K : PySem.W.Frag) (o : Operator) : R2 := fun v w H Q => ∃ S μ x y z, Good K S μ H ∧ Seen K S μ H x v ∧ Seen K S μ H y w ∧ opD o x y = some z ∧ Cont K S μ H z Q
theorem op_I (o : Operator) : OpR X (binaryOp o) (rOp X.K o) := by
  intro pins s σ H v w u1 u2 Q I r1 r2 h
  obtain ⟨S, μ, x, y, z, g, hx, hy, e, k⟩ := h
  exact opD_run e I g hx hy r1 r2 k
/-- two parts, one behind the other -/
theorem two {K : PySem.W.Frag} {σ : L2.St} {H : Hp} {ρ : Env} {S S1 S2 : Sto} {μ : Mu} {x y : D} {R : V → V → Hp → Prop} (g : Good K S μ H) (r : RelS K S μ H ρ σ) (ea : ev F ia ρ S = some (x, S1)) (eb : ev F ib ρ S1 = some (y, S2))
    (k : ∀ v w μ2 H2, Good K S2 μ2 H2 → Evo S μ H S2 μ2 H2 → Rep K S2 μ2 H2 x v → Rep K S2 μ2 H2 y w → R v w H2) : tE K F ia σ H fun v H1 => tE K F ib σ H1 fun w H2 => R v w H2 :=
  ⟨ρ, S, μ, x, S1, g, r, ea, fun v μ1 H1 g1 e1 rv => ⟨ρ, S1, μ1, y, S2, g1, r.mono g e1.w, eb, fun w μ2 H2 g2 e2 rw => k v w μ2 H2 g2 (e1.trans e2) (rv.mono g1 e2.w) rw⟩⟩
theorem i_op {o : Operator} (ha : PE X a (tE X.K F ia)) (hb : PE X b (tE X.K F ib)) : PE X (.BinOp a o b pos) (tE X.K F (.op o ia ib)) :=
  PE.weak (pe_op (op_I o) ha hb) fun σ H Q ⟨ρ, S, μ, d, S', g, r, q, k⟩ => by
    simp only [ev] at q
    split at q
    · cases q
    · rename_i x S1 ea
      split at q
      · cases q
      · rename_i y S2 eb
        split at q
        · rename_i x' y' sx sy
          split at q
          · rename_i z ez
            cases q
            exact two g r ea eb fun v w μ2 H2 g2 e2 rx ry => ⟨_, μ2, x', y', _, g2, see_ok g2 rx sx, see_ok g2 ry sy, ez, fun v' H' g3 e3 rz => k v' μ2 H' g3 (e2.trans e3) rz⟩
          · cases q
        · cases q
theorem i_neg (ha : PE X a (tE X.K F ia)) : PE X (.UnaryOp .USub a pos) (tE X.K F (.neg ia)) :=
  PE.weak (pe_un un_neg ha) fun σ H Q ⟨ρ, S, μ, d, S', g, r, q, k⟩ => by
    simp only [ev] at q
    split at q
    · rename_i i S1 ea
      cases q
      exact ⟨ρ, S, μ, _, _, g, r, ea, fun v μ1 H1 g1 e1 rv => ⟨i, rv, k _ _ _ g1 e1 rfl⟩⟩
    · cases q
def rCmp (K : PySem.W.Frag) (o : CmpOp) : R2 := fun v w H Q => ∃ S μ x y b, Good K S μ H ∧ Seen K S μ H x v ∧ Seen K S μ H y w ∧ cmpD o x y = some b ∧ Q (.bl b) H
theorem cmp_I (ok : Cok X) (o : CmpOp) : OpR X (compareOp o) (rCmp X.K o) := by
  intro pins s σ H v w u1 u2 Q I r1 r2 h
  obtain ⟨S, μ, x, y, z, g, hx, hy, e, q⟩ := h
  exact cmpD_run (by have := ok.un; omega) e I hx hy r1 r2 q
theorem cmp_read {o : CmpOp} {σ : L2.St} {H : Hp} {Q : VK} : tE X.K F (.cmp o ia ib) σ H Q → tOp (rCmp X.K o) (tE X.K F ia) (tE X.K F ib) σ H Q := fun ⟨ρ, S, μ, d, S', g, r, q, k⟩ => by
  simp only [ev] at q
  split at q
  · cases q
  · rename_i x S1 ea
    split at q
    · cases q
    · rename_i y S2 eb
      split at q
      · rename_i x' y' sx sy
        split at q
        · rename_i z ez
          cases q
          exact two g r ea eb fun v w μ2 H2 g2 e2 rx ry => ⟨_, μ2, x', y', _, g2, see_ok g2 rx sx, see_ok g2 ry sy, ez, k _ _ _ g2 e2 rfl⟩
        · cases q
      · cases q
theorem i_cmp {o : CmpOp} (ok : Cok X) (ha : PE X a (tE X.K F ia)) (hb : PE X b (tE X.K F ib)) (hm : behindInMarks o b = false := by first | exact nobehind _ (by decide) (by decide) | rfl) : PE X (.Compare a [o] [b] pos) (tE X.K F (.cmp o ia ib)) :=
  PE.weak (pe_cmpR (cmp_I ok o) ha hb hm) fun σ H Q h => cmp_read h
theorem tT_tE {K : PySem.W.Frag} {σ : L2.St} {H : Hp} {Q : Bool → Hp → Prop} (h : tT K F ia σ H Q) : tE K F ia σ H fun x H' => ∃ k, x = .bl k ∧ Q k H' := by
  obtain ⟨ρ, S, μ, b, S', g, r, q, k⟩ := h
  exact ⟨ρ, S, μ, _, _, g, r, q, fun v μ1 H1 g1 e1 rv => ⟨b, rv, k _ _ g1 e1⟩⟩
theorem t_cmp {o : CmpOp} (ok : Cok X) (ha : PE X a (tE X.K F ia)) (hb : PE X b (tE X.K F ib)) (hm : behindInMarks o b = false := by first | exact nobehind _ (by decide) (by decide) | rfl) : PT X (.Compare a [o] [b] pos) (tT X.K F (.cmp o ia ib)) :=
  PT.weak (pt_cmpR (cmp_I ok o) ha hb hm) fun σ H Q h => cmp_read (tT_tE h)
/-- an expression as a test -/
theorem t_e (ha : PE X a (tE X.K F ia)) (he : ∀ whole, isTrue a X.env whole = (do let v ← whole; standAt a.pos; holding [v] (truthy v)) := by intro _; rfl) : PT X a (tT X.K F ia) :=
  PT.weak (pt_val ha he) fun σ H Q h => tT_tE h
theorem chain_read {o p : CmpOp} {σ : L2.St} {H : Hp} {Q : VK} : tE X.K F (.chain o p ia ib ic) σ H Q → tChain (rCmp X.K o) (rCmp X.K p) (tE X.K F ia) (tE X.K F ib) (tE X.K F ic) σ H Q := fun ⟨ρ, S, μ, d, S', g, r, q, k⟩ => by
  simp only [ev] at q
  split at q
  · cases q
  · rename_i x S1 ea
    split at q
    · cases q
    · rename_i y S2 eb
      split at q
      · rename_i x' y' sx sy
        split at q
        · cases q
        · rename_i ez
          cases q
          exact two g r ea eb fun v w μ2 H2 g2 e2 rx ry => ⟨_, μ2, x', y', _, g2, see_ok g2 rx sx, see_ok g2 ry sy, ez, false, rfl, by show (if false = true then _ else _); rw [if_neg Bool.false_ne_true]; exact k _ _ _ g2 e2 rfl⟩
        · rename_i ez
          split at q
          · cases q
          · rename_i z S3 ec
            split at q
            · rename_i y2 z2 sy2 sz2
              split at q
              · rename_i r2 er
                cases q
                refine two g r ea eb fun v w μ2 H2 g2 e2 rx ry => ⟨_, μ2, x', y', _, g2, see_ok g2 rx sx, see_ok g2 ry sy, ez, true, rfl, ?_⟩
                rw [if_pos rfl]
                exact ⟨ρ, S2, μ2, z, _, g2, r.mono g e2.w, ec, fun v3 μ3 H3 g3 e3 rz => ⟨_, μ3, y2, z2, _, g3, see_ok g3 (ry.mono g2 e3.w) sy2, see_ok g3 rz sz2, er, k _ _ _ g3 (e2.trans e3) rfl⟩⟩
              · cases q
            · cases q
      · cases q
theorem i_chain {o p : CmpOp} (ok : Cok X) (ha : PE X a (tE X.K F ia)) (hb : PE X b (tE X.K F ib)) (hc : PE X c (tE X.K F ic)) (hm : lastMarks [o, p] [b, c] = false := by with_unfolding_all rfl) : PE X (.Compare a [o, p] [b, c] pos) (tE X.K F (.chain o p ia ib ic)) :=
  PE.weak (pe_chain (cmp_I ok o) (cmp_I ok p) ha hb hc hm) fun σ H Q h => chain_read h
theorem t_chain {o p : CmpOp} (ok : Cok X) (ha : PE X a (tE X.K F ia)) (hb : PE X b (tE X.K F ib)) (hc : PE X c (tE X.K F ic)) (hm : lastMarks [o, p] [b, c] = false := by with_unfolding_all rfl) : PT X (.Compare a [o, p] [b, c] pos) (tT X.K F (.chain o p ia ib ic)) :=
  PT.weak (pt_chain (cmp_I ok o) (cmp_I ok p) ha hb hc hm) fun σ H Q h => chain_read (tT_tE h)

theorem i_one {o : BoolOp} (ha : PE X a (tE X.K F ia)) : PE X (.BoolOp o [a] pos) (tE X.K F ia) := pe_one ha
theorem i_and (ha : PE X a (tE X.K F ia)) (hb : PE X (.BoolOp .And (b :: es) pos) (tE X.K F ib)) : PE X (.BoolOp .And (a :: b :: es) pos) (tE X.K F (.and ia ib)) :=
  PE.weak (pe_and ha hb) fun σ H Q ⟨ρ, S, μ, d, S', g, r, q, k⟩ => by
    simp only [ev] at q
    split at q
    · rename_i S1 ea
      exact ⟨ρ, S, μ, _, _, g, r, ea, fun v μ1 H1 g1 e1 rv => ⟨true, rv, by show (if true = true then _ else _); rw [if_pos rfl]; exact ⟨ρ, S1, μ1, _, _, g1, r.mono g e1.w, q, fun w μ2 H2 g2 e2 rw => k _ _ _ g2 (e1.trans e2) rw⟩⟩⟩
    · rename_i S1 ea
      cases q
      exact ⟨ρ, S, μ, _, _, g, r, ea, fun v μ1 H1 g1 e1 rv => ⟨false, rv, by show (if false = true then _ else _); rw [if_neg Bool.false_ne_true]; exact k _ _ _ g1 e1 rfl⟩⟩
    · cases q
theorem i_or (ha : PE X a (tE X.K F ia)) (hb : PE X (.BoolOp .Or (b :: es) pos) (tE X.K F ib)) : PE X (.BoolOp .Or (a :: b :: es) pos) (tE X.K F (.or ia ib)) :=
  PE.weak (pe_or ha hb) fun σ H Q ⟨ρ, S, μ, d, S', g, r, q, k⟩ => by
    simp only [ev] at q
    split at q
    · rename_i S1 ea
      cases q
      exact ⟨ρ, S, μ, _, _, g, r, ea, fun v μ1 H1 g1 e1 rv => ⟨true, rv, by show (if true = true then _ else _); rw [if_pos rfl]; exact k _ _ _ g1 e1 rfl⟩⟩
    · rename_i S1 ea
      exact ⟨ρ, S, μ, _, _, g, r, ea, fun v μ1 H1 g1 e1 rv => ⟨false, rv, by show (if false = true then _ else _); rw [if_neg Bool.false_ne_true]; exact ⟨ρ, S1, μ1, _, _, g1, r.mono g e1.w, q, fun w μ2 H2 g2 e2 rw => k _ _ _ g2 (e1.trans e2) rw⟩⟩⟩
    · cases q
theorem i_not (ha : PE X a (tE X.K F ia)) : PE X (.UnaryOp .Not a pos) (tE X.K F (.not ia)) :=
  PE.weak (pe_not ha) fun σ H Q ⟨ρ, S, μ, d, S', g, r, q, k⟩ => by
    simp only [ev] at q
    split at q
    · rename_i b S1 ea
      cases q
      exact ⟨ρ, S, μ, _, _, g, r, ea, fun v μ1 H1 g1 e1 rv => ⟨b, rv, k _ _ _ g1 e1 rfl⟩⟩
    · cases q
theorem i_ite (hc : PT X c (tT X.K F ic)) (ha : PE X a (tE X.K F ia)) (hb : PE X b (tE X.K F ib)) : PE X (.IfExp c a b pos) (tE X.K F (.ite ic ia ib)) :=
  PE.weak (pe_ifExp hc ha hb) fun σ H Q ⟨ρ, S, μ, d, S', g, r, q, k⟩ => by
    simp only [ev] at q
    split at q
    · rename_i S1 ea
      exact ⟨ρ, S, μ, true, _, g, r, ea, fun μ1 H1 g1 e1 => by show (if true = true then _ else _); rw [if_pos rfl]; exact ⟨ρ, S1, μ1, _, _, g1, r.mono g e1.w, q, fun w μ2 H2 g2 e2 rw => k _ _ _ g2 (e1.trans e2) rw⟩⟩
    · rename_i S1 ea
      exact ⟨ρ, S, μ, false, _, g, r, ea, fun μ1 H1 g1 e1 => by show (if false = true then _ else _); rw [if_neg Bool.false_ne_true]; exact ⟨ρ, S1, μ1, _, _, g1, r.mono g e1.w, q, fun w μ2 H2 g2 e2 rw => k _ _ _ g2 (e1.trans e2) rw⟩⟩
    · cases q
abbrev PWI (X : Cx) (F : CF) (e : Expr) (ie : E) : Prop := PW X e (tT X.K F ie)
theorem PW.weak {X : Cx} {e : Expr} {t t' : TT} (h : PW X e t) (k : ∀ σ H Q, t' σ H Q → t σ H Q) : PW X e t' := ⟨fun wh pins s σ H Q I q => h.run wh pins s σ H Q I (k σ H Q q)⟩
theorem tT_eta {K : PySem.W.Frag} {σ : L2.St} {H : Hp} {Q : Bool → Hp → Prop} (h : tT K F ia σ H Q) (k : ∀ b H', Q b H' → Q (if b = true then true else false) H') : True := trivial
theorem w_and1 (ha : PT X a (tT X.K F ia)) : PW X (.BoolOp .And [a] pos) (tT X.K F ia) := pw_and1 ha
theorem w_or1 (ha : PT X a (tT X.K F ia)) : PW X (.BoolOp .Or [a] pos) (tT X.K F ia) := pw_or1 ha
theorem w_and (ha : PT X a (tT X.K F ia)) (hb : PW X (.BoolOp .And (b :: es) pos) (tT X.K F ib)) : PW X (.BoolOp .And (a :: b :: es) pos) (tT X.K F (.and ia ib)) :=
  PW.weak (pw_and ha hb) fun σ H Q ⟨ρ, S, μ, d, S', g, r, q, k⟩ => by
    simp only [ev] at q
    split at q
    · rename_i S1 ea
      exact ⟨ρ, S, μ, true, _, g, r, ea, fun μ1 H1 g1 e1 => by show (if true = true then _ else _); rw [if_pos rfl]; exact ⟨ρ, S1, μ1, _, _, g1, r.mono g e1.w, q, fun μ2 H2 g2 e2 => k _ _ g2 (e1.trans e2)⟩⟩
    · rename_i S1 ea
      cases q
      exact ⟨ρ, S, μ, false, _, g, r, ea, fun μ1 H1 g1 e1 => by show (if false = true then _ else _); rw [if_neg Bool.false_ne_true]; exact k _ _ g1 e1⟩
    · cases q
theorem w_or (ha : PT X a (tT X.K F ia)) (hb : PW X (.BoolOp .Or (b :: es) pos) (tT X.K F ib)) : PW X (.BoolOp .Or (a :: b :: es) pos) (tT X.K F (.or ia ib)) :=
  PW.weak (pw_or ha hb) fun σ H Q ⟨ρ, S, μ, d, S', g, r, q, k⟩ => by
    simp only [ev] at q
    split at q
    · rename_i S1 ea
      cases q
      exact ⟨ρ, S, μ, true, _, g, r, ea, fun μ1 H1 g1 e1 => by show (if true = true then _ else _); rw [if_pos rfl]; exact k _ _ g1 e1⟩
    · rename_i S1 ea
      exact ⟨ρ, S, μ, false, _, g, r, ea, fun μ1 H1 g1 e1 => by show (if false = true then _ else _); rw [if_neg Bool.false_ne_true]; exact ⟨ρ, S1, μ1, _, _, g1, r.mono g e1.w, q, fun μ2 H2 g2 e2 => k _ _ g2 (e1.trans e2)⟩⟩
    · cases q
theorem t_w (h : PW X a (tT X.K F ia)) : PT X a (tT X.K F ia) := h.pt
theorem t_not (ha : PT X a (tT X.K F ia)) : PT X (.UnaryOp .Not a pos) (tT X.K F (.not ia)) :=
  PT.weak (pt_not ha) fun σ H Q ⟨ρ, S, μ, d, S', g, r, q, k⟩ => by
    simp only [ev] at q
    split at q
    · rename_i b S1 ea
      cases q
      exact ⟨ρ, S, μ, b, _, g, r, ea, fun μ1 H1 g1 e1 => k _ _ g1 e1⟩
    · cases q

theorem PA.weak {X : Cx} {e : List Expr} {t t' : TA} (h : PA X e t) (k : ∀ σ H Q, t' σ H Q → t σ H Q) : PA X e t' := ⟨fun p pins s σ H Q I q => h.run p pins s σ H Q I (k σ H Q q)⟩
theorem a_nil : PA X [] (tA X.K F .nil) := PA.weak pa_nil fun σ H Q ⟨ρ, S, μ, d, S', g, r, q, k⟩ => by
  simp only [evs] at q
  cases q
  exact k [] μ H g (Evo.refl _ _ _) rfl
theorem a_cons (ha : PE X a (tE X.K F ia)) (hr : PA X es (tA X.K F ies)) (hs : starEach (a :: es) X.env = (false, eval a X.env) :: starEach es X.env := by rfl) : PA X (a :: es) (tA X.K F (.cons ia ies)) :=
  PA.weak (pa_cons ha hr hs) fun σ H Q ⟨ρ, S, μ, d, S', g, r, q, k⟩ => by
    simp only [evs] at q
    split at q
    · cases q
    · rename_i x S1 ea
      split at q
      · cases q
      · rename_i xs S2 eb
        cases q
        exact ⟨ρ, S, μ, x, S1, g, r, ea, fun v μ1 H1 g1 e1 rv => ⟨ρ, S1, μ1, xs, _, g1, r.mono g e1.w, eb, fun vs μ2 H2 g2 e2 rw => k _ _ _ g2 (e1.trans e2) ⟨v, vs, rfl, rv.mono g1 e2.w, rw⟩⟩⟩
theorem star_lst {pins : List (Addr × Obj)} {σ : L2.St} {H : Hp} {s : Shared} {p : Addr} {xs : List V} {E : Value → Shared → Prop} {Q : List Value → Shared → Prop} (I : Inv X pins σ H s) (h : SqP X.K H p xs) (hQ : ∀ us s', Inv X pins σ H s' → Vals xs us → Q us s') :
    PySem.W.StarOf (model X.prog X.w) X.A E (.ref p) Q s := by
  obtain ⟨z, its, n, r, hl, ho⟩ := h.plain I
  have hT : s.TypeIs (.ref p) "list" := ⟨_, ho, rfl⟩
  have q : wpAny (model X.prog X.w) X.A (collect (.ref p)) Q E s := by
    refine wpAny_collect_seq p (.inl rfl) ho rfl rfl (fun h' hk => ?_) (by rw [List.size_toArray]; omega)
    have e : its.toArray.toList = its := by simp
    rw [e]
    exact hQ its _ (I.kept (t' := s.toks) hk) r
  unfold PySem.W.StarOf notIterableAtAll
  exact wpAny_bind (wpAny_specialOf hT PySem.F.slot_list_iter.lookup (wpAny_pure ⟨rfl, q⟩))
theorem a_star {p : Pos} (ha : PE X a (tE X.K F ia)) (hr : PA X es (tA X.K F ies)) : PA X (.Starred a p :: es) (tA X.K F (.star ia ies)) := by
  refine ⟨fun pos pins s σ H Q I ⟨ρ, S, μ, d, S', g, r, q, k⟩ => ?_⟩
  simp only [evs] at q
  split at q
  · cases q
  · rename_i x S1 ea
    have more : ∀ (ys xs : List D) (S2 : Sto), evs F ies ρ S1 = some (xs, S2) → (∀ vs μ' H', Good X.K S2 μ' H' → Evo S μ H S2 μ' H' → Reps X.K S2 μ' H' (ys ++ xs) vs → Q vs H') →
        ∀ (s2 : Shared) (us : List Value) (ws : List V) (μ1 : Mu) (H1 : Hp), Inv X pins σ H1 s2 → Good X.K S1 μ1 H1 → Evo S μ H S1 μ1 H1 → Reps X.K S1 μ1 H1 ys ws → Vals ws us →
        wpAny (model X.prog X.w) X.A (spliced (backTo pos (starEach es X.env))) (fun vs s3 => AP X pins σ Q (us ++ vs) s3) X.xe s2 := fun ys xs S2 eb k s2 us ws μ1 H1 I1 g1 e1 rys rus => by
      refine thn (hr.run pos pins s2 σ H1 (fun vs H2 => ∃ μ2, Good X.K S2 μ2 H2 ∧ Evo S μ H S2 μ2 H2 ∧ Reps X.K S2 μ2 H2 (ys ++ xs) (ws ++ vs)) I1 ⟨ρ, S1, μ1, xs, S2, g1, r.mono g e1.w, eb, fun vs μ2 H2 g2 e2 rx => ⟨μ2, g2, e1.trans e2, (rys.mono g1 e2.w).append rx⟩⟩) ?_
      rintro zs s3 ⟨vs, H2, I2, rz, μ2, g2, e2, rr⟩
      exact ⟨ws ++ vs, H2, I2, rus.append rz, k _ μ2 H2 g2 e2 rr⟩
    show wpAny _ _ (spliced ((true, (do let v ← eval a X.env; standAt pos; pure v)) :: backTo pos (starEach es X.env))) _ _ _
    refine PySem.W.ks_spliced (pos := pos) (thn (ha.run pins s σ H (fun v H1 => ∃ μ1, Good X.K S1 μ1 H1 ∧ Evo S μ H S1 μ1 H1 ∧ Rep X.K S1 μ1 H1 x v) I ⟨ρ, S, μ, x, S1, g, r, ea, fun v μ1 H1 g1 e1 rv => ⟨μ1, g1, e1, rv⟩⟩) ?_)
    rintro u s1 ⟨v, H1, I1, ru, μ1, g1, e1, rv⟩
    split at q
    · rename_i ys sy
      split at q
      · cases q
      · rename_i xs S2 eb
        cases q
        obtain ⟨p', ws, rfl, qa, ra⟩ := see_ok g1 rv sy
        cases (show u = Value.ref p' from ru)
        exact star_lst I1 qa fun us s2 I2 rus => more ys xs _ eb k s2 us ws μ1 H1 I2 g1 e1 ra rus
    · rename_i ys sy
      split at q
      · cases q
      · rename_i xs S2 eb
        cases q
        obtain ⟨p', ws, rfl, qa, ra⟩ := see_ok g1 rv sy
        cases (show u = Value.ref p' from ru)
        exact star_tup I1 qa fun us s2 I2 rus => more ys xs _ eb k s2 us ws μ1 H1 I2 g1 e1 ra rus
    · cases q
theorem i_tup {x1 : Nat} (h : PA X es (tA X.K F ies)) : PE X (.Tuple es x1 pos) (tE X.K F (.tup ies)) :=
  PE.weak (pe_tup h) fun σ H Q ⟨ρ, S, μ, d, S', g, r, q, k⟩ => by
    simp only [ev] at q
    split at q
    · rename_i xs S1 ea
      split at q
      · rename_i hz
        cases q
        exact ⟨ρ, S, μ, xs, _, g, r, ea, fun vs μ1 H1 g1 e1 rv => ⟨by rw [← rv.length]; exact small_line hz, fun p hp => k _ _ _ (good_new g1 hp) (e1.trans (evo_new g1 hp)) (rep_tup_new g1 hp rv)⟩⟩
      · cases q
    · cases q
theorem i_lst (h : PA X es (tA X.K F ies)) : PE X (.List es pos) (tE X.K F (.lst ies)) :=
  PE.weak (pe_lst h) fun σ H Q ⟨ρ, S, μ, d, S', g, r, q, k⟩ => by
    simp only [ev] at q
    split at q
    · rename_i xs S1 ea
      split at q
      · rename_i hz
        cases q
        exact ⟨ρ, S, μ, xs, _, g, r, ea, fun vs μ1 H1 g1 e1 rv => ⟨by rw [← rv.length]; exact small_line hz, fun p hp => k _ _ _ (good_new g1 hp) (e1.trans (evo_new g1 hp)) (rep_lst_new g1 hp rv)⟩⟩
      · cases q
    · cases q
theorem i_new (h : PA X es (tA X.K F ies)) : PE X (.List es pos) (tE X.K F (.new ies)) :=
  PE.weak (pe_lst h) fun σ H Q ⟨ρ, S, μ, d, S', g, r, q, k⟩ => by
    simp only [ev] at q
    split at q
    · rename_i xs S1 ea
      split at q
      · rename_i hz
        unfold mkList at q
        rw [if_pos rfl] at q
        cases q
        exact ⟨ρ, S, μ, xs, _, g, r, ea, fun vs μ1 H1 g1 e1 rv => ⟨by rw [← rv.length]; exact small_line hz, fun p hn => k _ _ _ (good_mk g1 hn rv) (e1.trans (evo_mk g1 hn)) ⟨p, rfl, get_last g1.len⟩⟩⟩
      · cases q
    · cases q

/-- x.bit_length() -/
theorem i_bits {apos : Pos} (ha : PE X a (tE X.K F ia)) (hbase : attributeBase a "bit_length" X.env (eval a X.env) = eval a X.env := by rfl) (hline : (apos.endLine == pos.line) = true := by rfl) :
    PE X (.Call (.Attribute a "bit_length" apos) [] [] pos) (tE X.K F (.bits ia)) :=
  PE.weak (L2.pe_bits ha hbase hline) fun σ H Q ⟨ρ, S, μ, d, S', g, r, q, k⟩ => by
    simp only [ev] at q
    split at q
    · rename_i i S1 ea
      cases q
      exact ⟨ρ, S, μ, .int i, _, g, r, ea, fun v μ1 H1 g1 e1 rv => ⟨i, rv, k _ _ _ g1 e1 rfl⟩⟩
    · cases q
def rIxI (K : PySem.W.Frag) : R2 := fun v w H Q => ∃ S μ x i z, Good K S μ H ∧ Seen K S μ H x v ∧ Rep K S μ H i w ∧ ixD x i = some z ∧ Cont K S μ H z Q
theorem ix_I : IxR X (rIxI X.K) := by
  intro value slice pins s σ H v w u1 u2 Q I r1 r2 h hs
  obtain ⟨S, μ, x, i, z, g, hx, hi, e, k⟩ := h
  exact ixD_run e I g hx hi r1 r2 k hs
theorem i_ix (ha : PE X a (tE X.K F ia)) (hb : PE X b (tE X.K F ib)) (hs : PlainIx b := by exact fun _ _ => rfl) : PE X (.Subscript a b pos) (tE X.K F (.ix ia ib)) :=
  PE.weak (pe_ix ix_I ha hb hs) fun σ H Q ⟨ρ, S, μ, d, S', g, r, q, k⟩ => by
    simp only [ev] at q
    split at q
    · cases q
    · rename_i x S1 ea
      split at q
      · cases q
      · rename_i y S2 eb
        split at q
        · cases q
        · rename_i x' sx
          split at q
          · rename_i z ez
            cases q
            exact two g r ea eb fun v w μ2 H2 g2 e2 rx ry => ⟨_, μ2, x', y, _, g2, see_ok g2 rx sx, ry, ez, fun v' H' g3 e3 rz => k v' μ2 H' g3 (e2.trans e3) rz⟩
          · cases q
abbrev POI (X : Cx) (F : CF) (lo : Option Expr) (il : E) : Prop := (lo = none ∧ il = .c .non) ∨ (∃ l, lo = some l ∧ PE X l (tE X.K F il))
def tO (K : PySem.W.Frag) (F : CF) (il : E) : TO := fun σ H Q => ∃ (ρ : Env) (S : Sto) (μ : Mu) (d : D) (o : Option Int) (S' : Sto), Good K S μ H ∧ RelS K S μ H ρ σ ∧ ev F il ρ S = some (d, S') ∧ part? d = some o ∧ ((isNonE il || isIntD d) = true) ∧ ∀ μ' H', Good K S' μ' H' → Evo S μ H S' μ' H' → Q o H'
theorem PO.weak {X : Cx} {e : Option Expr} {t t' : TO} (h : PO X e t) (k : ∀ σ H Q, t' σ H Q → t σ H Q) : PO X e t' := ⟨fun pins s σ H Q I q => h.run pins s σ H Q I (k σ H Q q)⟩
theorem o_none : PO X none (tO X.K F (.c .non)) := PO.weak po_none fun σ H Q ⟨ρ, S, μ, d, o, S', g, r, q, p, _, k⟩ => by
  simp only [ev] at q
  cases q
  cases p
  exact k μ H g (Evo.refl _ _ _)
theorem o_some (ha : PE X a (tE X.K F ia)) (hn : isNonE ia = false := by rfl) : PO X (some a) (tO X.K F ia) := PO.weak (po_some ha) fun σ H Q ⟨ρ, S, μ, d, o, S', g, r, q, p, c, k⟩ => by
  rw [hn, Bool.false_or] at c
  cases d with
  | int i =>
    cases p
    exact ⟨ρ, S, μ, _, _, g, r, q, fun v μ1 H1 g1 e1 rv => ⟨i, rv, k _ _ g1 e1⟩⟩
  | _ => cases c
theorem i_sl {lo hi : Option Expr} {il ih : E} {p2 : Pos} (ha : PE X a (tE X.K F ia)) (hl : PO X lo (tO X.K F il)) (hh : PO X hi (tO X.K F ih)) : PE X (.Subscript a (.Slice lo hi none p2) pos) (tE X.K F (.sl ia il ih)) :=
  PE.weak (pe_slice sl_I ha hl hh) fun σ H Q ⟨ρ, S, μ, d, S', g, r, q, k⟩ => by
    simp only [ev] at q
    split at q
    · cases q
    · rename_i x S1 ea
      split at q
      · cases q
      · rename_i l S2 el
        split at q
        · cases q
        · rename_i h S3 eh
          split at q
          · rename_i x' l' h' sx pl ph
            split at q
            · rename_i hk
              split at q
              · rename_i z ez
                cases q
                rw [Bool.and_eq_true] at hk
                obtain ⟨k1, k2⟩ := hk
                exact ⟨ρ, S, μ, x, S1, g, r, ea, fun v μ1 H1 g1 e1 rv => ⟨ρ, S1, μ1, l, l', S2, g1, r.mono g e1.w, el, pl, k1, fun μ2 H2 g2 e2 =>
                  ⟨ρ, S2, μ2, h, h', _, g2, r.mono g (e1.trans e2).w, eh, ph, k2, fun μ3 H3 g3 e3 => ⟨_, μ3, x', _, g3, see_ok g3 (rv.mono g1 (e2.trans e3).w) sx, ez, fun v' H' g4 e4 rz => k v' μ3 H' g4 ((e1.trans (e2.trans e3)).trans e4) rz⟩⟩⟩⟩
              · cases q
            · cases q
          · cases q
end
end Iv

set_option Elab.async false
set_option linter.all false
set_option maxRecDepth 100000
set_option maxHeartbeats 1000000
namespace Iv
open PySem PySem.Spec PyProof.Rows L2

/-- a def's promise, where no repr is under way -/
abbrev SpI := List V → Hp → VK → Prop
structure FnI (P : Program) (w : World) (K : PySem.W.Frag) (mg : Str → Option Value) (base : Heap) (k : Nat) (f : Addr) (fd : FuncData) (ps : List Str) (sp : SpI) : Prop where
  len : ∀ vs H Q, sp vs H Q → vs.length = ps.length
  run : ∀ (A : Around) (outer : List PySem.Env) (s : Shared) (H : Hp) (args : Args) (us : List Value) (vs : List V) (Q : VK), Room k A → A.guards = some [] → Env0 P w K mg base A outer s H → BindsTo s fd args (ps.zip us) → Vals vs us → sp vs H Q →
    codeAny (model P w) A (.call (.ref f) args) (CR L2.CX0 outer P w H s Q L2.E0) s
theorem FnI.mono {P : Program} {w : World} {K : PySem.W.Frag} {mg : Str → Option Value} {base : Heap} {j k : Nat} {f : Addr} {fd : FuncData} {ps : List Str} {sp : SpI} (F : FnI P w K mg base j f fd ps sp) (h : j ≤ k) : FnI P w K mg base k f fd ps sp :=
  ⟨F.len, fun A outer s H args us vs Q hr => F.run A outer s H args us vs Q (hr.mono h)⟩
/-- what the evaluation of a def promises -/
def spI (K : PySem.W.Frag) (F : CF) (ar fi : Nat) : SpI := fun vs H Q => ∃ (S : Sto) (μ : Mu) (ds : List D) (d : D) (S' : Sto), Good K S μ H ∧ Reps K S μ H ds vs ∧ ds.length = ar ∧ F fi ds S = some (d, S') ∧ ContS K S μ H S' d Q

section
variable {X : Cx} {F : CF} {a b c e : Expr} {es : List Expr} {ia ib ic ie : E} {ies : Es} {pos : Pos}
/-- a def that may be called here -/
structure CallOk (X : Cx) (F : CF) (fi ar : Nat) (x : Str) : Prop where
  ar_ : ∀ ds S r, F fi ds S = some r → ds.length = ar
  ex : ∃ (f : Addr) (fd : FuncData) (ps : List Str) (k : Nat), X.mg x = some (.ref f) ∧ PySem.W.keepIn X.K (.ref f) = true ∧ Binds X.K fd ps [] ∧ Room k X.A ∧ FnI X.prog X.w X.K X.mg X.base k f fd ps (spI X.K F ar fi)
/-- the callee runs -/
theorem run_I {pins : List (Addr × Obj)} {σ : L2.St} {H : Hp} {s : Shared} {Q : VK} {args : Args} {us : List Value} {vs : List V} {k : Nat} {f : Addr} {fd : FuncData} {ps : List Str} {sp : SpI} (G : FnI X.prog X.w X.K X.mg X.base k f fd ps sp) (hr : Room k X.A) (hgd : X.A.guards = some [])
    (I : Inv X pins σ H s) (hb : BindsTo s fd args (ps.zip us)) (r : Vals vs us) (h : sp vs H Q) : codeAny (model X.prog X.w) X.A (.call (.ref f) args) (fun r s' => match r with | .ok (.ret v) => EP X pins σ Q v s' | .ok _ => False | .error e => X.xe e s') s :=
  codeAny_mono (G.run X.A X.stack s H args us vs Q hr hgd I.env0 hb r h) fun r s' hq => by
    cases r with
    | error e => exact False.elim hq
    | ok fl =>
      cases fl with
      | ret u => exact I.after hq
      | next => exact False.elim hq
      | brk => exact False.elim hq
      | cont => exact False.elim hq
theorem tA_run {K : PySem.W.Frag} {σ : L2.St} {H : Hp} {R : List V → Hp → Prop} {ρ : Env} {S S1 : Sto} {μ : Mu} {xs : List D} (g : Good K S μ H) (r : RelS K S μ H ρ σ) (q : evs F ies ρ S = some (xs, S1))
    (k : ∀ vs μ1 H1, Good K S1 μ1 H1 → Evo S μ H S1 μ1 H1 → Reps K S1 μ1 H1 xs vs → R vs H1) : tA K F ies σ H R := ⟨ρ, S, μ, xs, S1, g, r, q, k⟩
/-- f(e, ..) -/
theorem i_call {fi ar : Nat} {x : Str} {p : Pos} (ok : Cok X) (hg : Gl X x) (C : CallOk X F fi ar x) (ha : PA X (e :: es) (tA X.K F ies)) (hdb : (x == ("__debug__" : Str)) = false := by decide)
    (he : starEach (e :: es) X.env = (false, eval e X.env) :: starEach es X.env := by rfl) (hpl : (backTo pos (starEach es X.env)).any (·.1) = false := by rfl) : PE X (.Call (.Name x p) (e :: es) [] pos) (tE X.K F (.call fi ies)) := by
  obtain ⟨f, fd, ps, k, hm, hk, hb, hr, G⟩ := C.ex
  refine ⟨fun pins s σ H Q I ⟨ρ, S, μ, d, S', g, r, q, kk⟩ => ?_⟩
  simp only [ev] at q
  split at q
  · rename_i xs S1 ea
    refine wpAny_Call_Name_kw (ld_glob I hg hm ?_ hdb)
    refine PySem.W.callWith_K (h₀ := X.base) I.ok.mod.kin hk (thn (ha.run pos pins s σ H (fun vs H1 => spI X.K F ar fi vs H1 Q) I (tA_run g r ea fun vs μ1 H1 g1 e1 rv => ?_)) ?_) he hpl
    · exact ⟨S1, μ1, xs, d, S', g1, rv, C.ar_ _ _ _ q, q, fun v μ2 H2 g2 e2 rd => kk v μ2 H2 g2 (e1.trans e2) rd⟩
    · rintro us s1 ⟨vs, H1, I1, rr, hq⟩
      have hl : (us ++ []).length = ps.length := by rw [List.append_nil, ← rr.length]; exact G.len _ _ _ hq
      have hbb := hb s1 us I1.kIn hl
      rw [List.append_nil] at hbb
      exact ⟨I1.kIn, wpAny_call (run_I G hr ok.gd I1 hbb rr hq)⟩
  · cases q
/-- f() -/
theorem i_call0 {fi ar : Nat} {x : Str} {p : Pos} (ok : Cok X) (hg : Gl X x) (C : CallOk X F fi ar x) (hdb : (x == ("__debug__" : Str)) = false := by decide) : PE X (.Call (.Name x p) [] [] pos) (tE X.K F (.call fi .nil)) := by
  obtain ⟨f, fd, ps, k, hm, hk, hb, hr, G⟩ := C.ex
  refine ⟨fun pins s σ H Q I ⟨ρ, S, μ, d, S', g, r, q, kk⟩ => ?_⟩
  simp only [ev, evs] at q
  have hq : spI X.K F ar fi [] H Q := ⟨S, μ, [], d, S', g, rfl, C.ar_ _ _ _ q, q, kk⟩
  have hl : ([] ++ [] : List Value).length = ps.length := G.len _ _ _ hq
  have hbb := hb s [] I.kIn hl
  rw [List.append_nil] at hbb
  exact wpAny_Call_Name_kw (ld_glob I hg hm (PySem.W.callWith_K0 I.kIn hk (wpAny_call (run_I G hr ok.gd I hbb .nil hq))) hdb)
theorem evs_len : ∀ {es : Es} {n : Nat} {ρ : Env} {S S1 : Sto} {xs : List D}, plainEs es = some n → evs F es ρ S = some (xs, S1) → xs.length = n
  | .nil, n, ρ, S, S1, xs, h, q => by
    simp only [evs] at q
    cases q
    cases h
    rfl
  | .cons e es, n, ρ, S, S1, xs, h, q => by
    simp only [plainEs] at h
    obtain ⟨m, hm, rfl⟩ := Option.map_eq_some_iff.mp h
    simp only [evs] at q
    split at q
    · cases q
    · split at q
      · cases q
      · rename_i ys S2 eb
        cases q
        rw [List.length_cons, evs_len hm eb]
  | .star _ _, _, _, _, _, _, h, _ => by cases h
theorem reps_prm {K : PySem.W.Frag} {S : Sto} {μ : Mu} {H : Hp} {xs : List D} {vs : List V} (h : Reps K S μ H xs vs) : ∀ pm : List Nat, Reps K S μ H (prm pm xs) (prm pm vs)
  | [] => rfl
  | i :: pm => by
    have ih := reps_prm h pm
    unfold prm at ih ⊢
    rw [List.filterMap_cons, List.filterMap_cons]
    cases e : xs[i]? with
    | none =>
      have e2 : vs[i]? = none := List.getElem?_eq_none (by rw [← h.length]; exact List.getElem?_eq_none_iff.mp e)
      rw [e2]
      exact ih
    | some d =>
      obtain ⟨v, hv, r⟩ := h.get e
      rw [hv]
      exact ⟨v, _, rfl, r, ih⟩
theorem vals_prm {vs : List V} {us : List Value} (h : Vals vs us) : ∀ pm : List Nat, Vals (prm pm vs) (prm pm us)
  | [] => .nil
  | i :: pm => by
    have ih := vals_prm h pm
    unfold prm at ih ⊢
    rw [List.filterMap_cons, List.filterMap_cons]
    cases e : vs[i]? with
    | none =>
      rw [h.none_of e]
      exact ih
    | some d =>
      obtain ⟨v, hv, r⟩ := h.get e
      rw [hv]
      exact .cons r ih
structure CallKOk (X : Cx) (F : CF) (fi ar : Nat) (x : Str) (n : Nat) (ks : List Str) (pm : List Nat) : Prop where
  ar_ : ∀ ds S r, F fi ds S = some r → ds.length = ar
  ex : ∃ (f : Addr) (fd : FuncData) (ps : List Str) (k : Nat), X.mg x = some (.ref f) ∧ PySem.W.keepIn X.K (.ref f) = true ∧ (∀ (s : Shared) (us ws : List Value), us.length = n → ws.length = ks.length → BindsTo s fd ⟨us, ks.zip ws⟩ (ps.zip (prm pm (us ++ ws)))) ∧ Room k X.A ∧ FnI X.prog X.w X.K X.mg X.base k f fd ps (spI X.K F ar fi)
/-- the keywords' values -/
theorem k_nil : PK X [] (tA X.K F .nil) := ⟨fun pos pins s σ H Q I ⟨ρ, S, μ, d, S', g, r, q, k⟩ => by
  simp only [evs] at q
  cases q
  exact pk_nil.run pos pins s σ H Q I (k [] μ H g (Evo.refl _ _ _) rfl)⟩
theorem k_cons {nm : Option Str} {kpos : Pos} {kws : List Keyword} (ha : PE X a (tE X.K F ia)) (hr : PK X kws (tA X.K F ies)) : PK X (⟨nm, a, kpos⟩ :: kws) (tA X.K F (.cons ia ies)) := ⟨fun pos pins s σ H Q I ⟨ρ, S, μ, d, S', g, r, q, k⟩ => by
  simp only [evs] at q
  split at q
  · cases q
  · rename_i x S1 ea
    split at q
    · cases q
    · rename_i xs S2 eb
      cases q
      exact (pk_cons ha hr).run pos pins s σ H Q I ⟨ρ, S, μ, x, S1, g, r, ea, fun v μ1 H1 g1 e1 rv => ⟨ρ, S1, μ1, xs, _, g1, r.mono g e1.w, eb, fun vs μ2 H2 g2 e2 rw => k _ _ _ g2 (e1.trans e2) ⟨v, vs, rfl, rv.mono g1 e2.w, rw⟩⟩⟩⟩
/-- f(k = v, ..) -/
theorem i_callK0 {fi ar : Nat} {x : Str} {p : Pos} {kws : List Keyword} {ks : List Str} {pm : List Nat} {kes : Es} (ok : Cok X) (hg : Gl X x) (C : CallKOk X F fi ar x 0 ks pm) (hkw : PK X kws (tA X.K F kes)) (hl : plainEs kes = some ks.length)
    (hall : (backToKw pos (keywordEach kws X.env)).all (·.1.isSome) = true := by rfl) (hks : (backToKw pos (keywordEach kws X.env)).filterMap (·.1) = ks := by rfl) (hdb : (x == ("__debug__" : Str)) = false := by decide)
    (hpl : ((backTo pos (starEach [] X.env)).any (·.1) || (backToKw pos (keywordEach kws X.env)).any (·.1.isNone)) = false := by rfl) : PE X (.Call (.Name x p) [] kws pos) (tE X.K F (.callK fi .nil kes pm)) := by
  obtain ⟨f, fd, ps, k, hm, hk, hb, hr, G⟩ := C.ex
  refine ⟨fun pins s σ H Q I ⟨ρ, S, μ, d, S', g, r, q, kk⟩ => ?_⟩
  simp only [ev, evs] at q
  split at q
  · cases q
  · rename_i ys S2 eb
    refine wpAny_Call_Name_kw (ld_glob I hg hm ?_ hdb)
    refine PySem.W.callWith_KW0 (h₀ := X.base) I.ok.mod.kin hk hall ?_ hpl
    refine thn (hkw.run pos pins s σ H (fun vs H1 => vs.length = ks.length ∧ spI X.K F ar fi (prm pm ([] ++ vs)) H1 Q) I (tA_run g r eb fun vs μ1 H1 g1 e1 rv => ?_)) ?_
    · exact ⟨by rw [← rv.length, evs_len hl eb], S2, μ1, _, d, S', g1, reps_prm (by simpa using rv) pm, C.ar_ _ _ _ q, q, fun v μ2 H2 g2 e2 rd => kk v μ2 H2 g2 (e1.trans e2) rd⟩
    · rintro us s1 ⟨vs, H1, I1, rr, hl2, hq⟩
      refine ⟨I1.kIn, ?_⟩
      rw [hks]
      refine wpAny_call (run_I G hr ok.gd I1 (hb s1 [] us rfl (by rw [← rr.length, hl2])) (vals_prm (by simpa using rr) pm) hq)
/-- f(e, .., k = v, ..) -/
theorem i_callK {fi ar n : Nat} {x : Str} {p : Pos} {kws : List Keyword} {ks : List Str} {pm : List Nat} {kes : Es} (ok : Cok X) (hg : Gl X x) (C : CallKOk X F fi ar x n ks pm) (ha : PA X (e :: es) (tA X.K F ies)) (hn : plainEs ies = some n) (hkw : PK X kws (tA X.K F kes)) (hl : plainEs kes = some ks.length)
    (hall : (backToKw pos (keywordEach kws X.env)).all (·.1.isSome) = true := by rfl) (hks : (backToKw pos (keywordEach kws X.env)).filterMap (·.1) = ks := by rfl) (hdb : (x == ("__debug__" : Str)) = false := by decide) (he : starEach (e :: es) X.env = (false, eval e X.env) :: starEach es X.env := by rfl)
    (hpl : ((backTo pos (starEach (e :: es) X.env)).any (·.1) || (backToKw pos (keywordEach kws X.env)).any (·.1.isNone)) = false := by rfl) : PE X (.Call (.Name x p) (e :: es) kws pos) (tE X.K F (.callK fi ies kes pm)) := by
  obtain ⟨f, fd, ps, k, hm, hk, hb, hr, G⟩ := C.ex
  refine ⟨fun pins s σ H Q I ⟨ρ, S, μ, d, S', g, r, q, kk⟩ => ?_⟩
  simp only [ev] at q
  split at q
  · cases q
  · rename_i xs S1 ea
    split at q
    · cases q
    · rename_i ys S2 eb
      refine wpAny_Call_Name_kw (ld_glob I hg hm ?_ hdb)
      refine PySem.W.callWith_KW (h₀ := X.base) I.ok.mod.kin hk hall (thn (ha.run pos pins s σ H (fun vs H1 => ∃ μ1, Good X.K S1 μ1 H1 ∧ Evo S μ H S1 μ1 H1 ∧ Reps X.K S1 μ1 H1 xs vs) I (tA_run g r ea fun vs μ1 H1 g1 e1 rv => ⟨μ1, g1, e1, rv⟩)) ?_) hpl he
      rintro us s1 ⟨vs, H1, I1, rr, μ1, g1, e1, rv⟩
      refine thn (hkw.run pos pins s1 σ H1 (fun ws H2 => ws.length = ks.length ∧ spI X.K F ar fi (prm pm (vs ++ ws)) H2 Q) I1 (tA_run g1 (r.mono g e1.w) eb fun ws μ2 H2 g2 e2 rw => ?_)) ?_
      · exact ⟨by rw [← rw.length, evs_len hl eb], S2, μ2, _, d, S', g2, reps_prm ((rv.mono g1 e2.w).append rw) pm, C.ar_ _ _ _ q, q, fun v μ3 H3 g3 e3 rd => kk v μ3 H3 g3 ((e1.trans e2).trans e3) rd⟩
      · rintro zs s2 ⟨ws, H2, I2, rz, hl2, hq⟩
        refine ⟨I2.kIn, ?_⟩
        rw [hks]
        refine wpAny_call (run_I G hr ok.gd I2 (hb s2 us zs (by rw [← rr.length, ← rv.length, evs_len hn ea]) (by rw [← rz.length, hl2])) (vals_prm (rr.append rz) pm) hq)

theorem biD_read {K : PySem.W.Frag} {b : BI} {σ : L2.St} {H : Hp} {Q : VK} : tE K F (.bi b ies) σ H Q → tCB (rBi K b) (tA K F ies) σ H Q := fun ⟨ρ, S, μ, d, S', g, r, q, k⟩ => by
  simp only [ev] at q
  split at q
  · rename_i xs S1 ea
    split at q
    · rename_i ys sy
      split at q
      · rename_i z ez
        cases q
        refine ⟨ρ, S, μ, xs, _, g, r, ea, fun vs μ1 H1 g1 e1 rv => ⟨_, μ1, ys, _, g1, seeAll_ok g1 rv sy, ez, fun v' H' g2 e2 rz => k v' μ1 H' g2 (e1.trans e2) rz⟩⟩
      · cases q
    · cases q
  · cases q
/-- f(e, ..), f a built-in function -/
theorem i_biB {b : BI} {id : String} {x : Str} {p : Pos} (ok : Cok X) (hid : biV b = .builtin id) (hg : Gl X x) (hm : X.mg x = none) (hv : bootBuiltins x = some (.builtin id)) (ha : PA X (e :: es) (tA X.K F ies)) (hn : x ≠ "__name__" := by decide) (hdb : (x == ("__debug__" : Str)) = false := by decide)
    (he : starEach (e :: es) X.env = (false, eval e X.env) :: starEach es X.env := by rfl) (hpl : (backTo pos (starEach es X.env)).any (·.1) = false := by rfl) : PE X (.Call (.Name x p) (e :: es) [] pos) (tE X.K F (.bi b ies)) :=
  PE.weak (pe_callB (r := rBi X.K b) (by rw [← hid]; exact call_bi ok.calm ok.gd ok.un b) hg hm hv ha hn hdb he hpl) fun σ H Q h => biD_read h
/-- T(e, ..), T a built-in type -/
theorem i_biT {b : BI} {T : String} {x : Str} {p : Pos} (ok : Cok X) (hid : biV b = .type T) (hg : Gl X x) (hm : X.mg x = none) (hv : bootBuiltins x = some (.type T)) (ha : PA X (e :: es) (tA X.K F ies)) (hn : x ≠ "__name__" := by decide) (hdb : (x == ("__debug__" : Str)) = false := by decide)
    (he : starEach (e :: es) X.env = (false, eval e X.env) :: starEach es X.env := by rfl) (hpl : (backTo pos (starEach es X.env)).any (·.1) = false := by rfl) : PE X (.Call (.Name x p) (e :: es) [] pos) (tE X.K F (.bi b ies)) :=
  PE.weak (pe_callTy (r := rBi X.K b) (by rw [← hid]; exact call_bi ok.calm ok.gd ok.un b) hg hm hv ha hn hdb he hpl) fun σ H Q h => biD_read h

/-- list(e), a place of its own -/
theorem i_mk {x : Str} {p : Pos} (ok : Cok X) (hg : Gl X x) (hm : X.mg x = none) (hv : bootBuiltins x = some (.type "list")) (ha : PA X (e :: es) (tA X.K F ies)) (hn : x ≠ "__name__" := by decide) (hdb : (x == ("__debug__" : Str)) = false := by decide)
    (he : starEach (e :: es) X.env = (false, eval e X.env) :: starEach es X.env := by rfl) (hpl : (backTo pos (starEach es X.env)).any (·.1) = false := by rfl) : PE X (.Call (.Name x p) (e :: es) [] pos) (tE X.K F (.mk ies)) :=
  PE.weak (pe_callTy (r := rMk X.K) (call_mk ok.calm) hg hm hv ha hn hdb he hpl) fun σ H Q ⟨ρ, S, μ, d, S', g, r, q, k⟩ => by
    simp only [ev] at q
    split at q
    · rename_i xs S1 ea
      split at q
      · rename_i ys sy
        split at q
        · rename_i zs ez
          exact ⟨ρ, S, μ, xs, _, g, r, ea, fun vs μ1 H1 g1 e1 rv => ⟨_, μ1, ys, zs, _, _, g1, seeAll_ok g1 rv sy, ez, q, fun v' μ' H' g2 e2 rz => k v' μ' H' g2 (e1.trans e2) rz⟩⟩
        · cases q
      · cases q
    · cases q

theorem i_fmt {a : Expr} {ia : E} (ha : PE X a (tE X.K F ia)) : PE X (.FormattedValue a (-1) none pos) (tE X.K F (.fmt ia)) :=
  PE.weak (pe_fmt ha) fun σ H Q ⟨ρ, S, μ, d, S', g, r, q, k⟩ => by
    simp only [ev] at q
    split at q
    · rename_i y S1 ea
      split at q
      · rename_i hz
        cases q
        exact ⟨ρ, S, μ, _, _, g, r, ea, fun v μ1 H1 g1 e1 rv => .inl ⟨y, rv, small_line hz, k _ _ _ g1 e1 rfl⟩⟩
      · cases q
    · rename_i i S1 ea
      split at q
      · rename_i hz
        rw [decide_eq_true_eq] at hz
        cases q
        exact ⟨ρ, S, μ, _, _, g, r, ea, fun v μ1 H1 g1 e1 rv => .inr ⟨i, rv, by have := natAbs_log hz (by decide); omega, k _ _ _ g1 e1 rfl⟩⟩
      · cases q
    · cases q
def tsOf (K : PySem.W.Frag) (F : CF) : Es → List TE
  | .nil => []
  | .cons e es => tE K F e :: tsOf K F es
  | .star _ _ => []
inductive PJI (X : Cx) (F : CF) : List Expr → Es → Prop where
  | nil : PJI X F [] .nil
  | cons {e : Expr} {es : List Expr} {ie : E} {ies : Es} (h : PE X e (tE X.K F ie)) (r : PJI X F es ies) : PJI X F (e :: es) (.cons ie ies)
theorem pji_pj {es : List Expr} {ies : Es} (h : PJI X F es ies) : PJ X es (tsOf X.K F ies) := by
  induction h with
  | nil => exact .nil
  | cons h _ ih => exact .cons h ih
theorem js_run {K : PySem.W.Frag} {σ : L2.St} {Q : Str → Hp → Prop} {es : List Expr} {ies : Es} (h : PJI X F es ies) : ∀ (acc : Str) (ρ : Env) (S S1 : Sto) (μ : Mu) (H : Hp) (xs : List D) (ss : List Str), Good K S μ H → RelS K S μ H ρ σ → evs F ies ρ S = some (xs, S1) → strs? xs = some ss → acc.length + (ss.map (·.length)).sum ≤ sizeLine →
    (∀ μ' H', Good K S1 μ' H' → Evo S μ H S1 μ' H' → Q (catS acc ss) H') → tJs (tsOf K F ies) acc σ H Q := by
  induction h with
  | nil =>
    intro acc ρ S S1 μ H xs ss g r q qs hz k
    simp only [evs] at q
    cases q
    cases qs
    exact k μ H g (Evo.refl _ _ _)
  | @cons e es ie ies hp r0 ih =>
    intro acc ρ S S1 μ H xs ss g r q qs hz k
    simp only [evs] at q
    split at q
    · cases q
    · rename_i x S2 ea
      split at q
      · cases q
      · rename_i ys S3 eb
        cases q
        cases x with
        | str y =>
          simp only [strs?] at qs
          obtain ⟨rs, e1, rfl⟩ := Option.map_eq_some_iff.mp qs
          simp only [List.map_cons, List.sum_cons] at hz
          refine ⟨ρ, S, μ, _, _, g, r, ea, fun v μ1 H1 g1 ev1 rv => ⟨y, rv, by rw [strLen_append]; omega, ih (acc ++ y) ρ S2 S1 μ1 H1 ys rs g1 (r.mono g ev1.w) eb e1 (by rw [strLen_append]; omega) fun μ' H' g' e' => k μ' H' g' (ev1.trans e')⟩⟩
        | _ => simp [strs?] at qs
theorem i_js {v1 v2 : Expr} {rest : List Expr} {ies : Es} (h : PJI X F (v1 :: v2 :: rest) ies) : PE X (.JoinedStr (v1 :: v2 :: rest) pos) (tE X.K F (.js ies)) :=
  PE.weak (pe_joined (pji_pj h)) fun σ H Q ⟨ρ, S, μ, d, S', g, r, q, k⟩ => by
    simp only [ev] at q
    split at q
    · rename_i xs S1 ea
      split at q
      · rename_i ss es
        split at q
        · rename_i hz
          cases q
          exact js_run h _ ρ S S' μ H xs ss g r ea es (by have := small_line hz; show 0 + _ ≤ _; omega) fun μ' H' g' e' => k _ _ _ g' e' rfl
        · cases q
      · cases q
    · cases q

def rIsO (K : PySem.W.Frag) (tys : List Ty) (one : Bool) : List V → Hp → VK → Prop := fun vs H Q => ∃ S μ x v, Good K S μ H ∧ Seen K S μ H x v ∧ (∀ i, x ≠ .ref i) ∧
  ((one = true ∧ ∃ t, tys = [t] ∧ vs = [v, .ty (tyS t)]) ∨ (one = false ∧ ∃ p, vs = [v, .ref p] ∧ H p = some (.tup (tys.map fun t => V.ty (tyS t))))) ∧ Q (.bl (tys.any (isTy x))) H
theorem pairedC : ∀ ts : List Ty, Paired ClsV (ts.map fun t => V.ty (tyS t)) (ts.map fun t => Value.type (tyS t))
  | [] => .nil
  | t :: ts => .cons (.ty _) (pairedC ts)
theorem call_isO {tys : List Ty} {one : Bool} : CallR X (.builtin "isinstance") (rIsO X.K tys one) := by
  intro pins s σ H vs us Q I r h
  obtain ⟨S, μ, x, v, g, hx, nr, h, q⟩ := h
  rcases h with ⟨_, t, rfl, rfl⟩ | ⟨_, p, rfl, hp⟩
  · refine call_isi pins s σ H _ us Q I r ⟨v, .ty (tyS t), _, _, isTy x t, rfl, .ty _, ty_of nr hx, kit_isTy t, ?_⟩
    simpa using q
  · exact call_isiT pins s σ H _ us Q I r ⟨v, p, _, _, _, _, rfl, hp, pairedC tys, ty_of nr hx, kit_any tys, q⟩
/-- the classes' names -/
structure TyOk (X : Cx) (e : Expr) (t : Ty) : Prop where
  pe : PE X e (tC (.ty (tyS t)))
theorem ty_ok {x : Str} {t : Ty} {p : Pos} (hg : Gl X x) (hm : X.mg x = none) (hv : bootBuiltins x = some (.type (tyS t))) (hn : x ≠ "__name__" := by decide) (hdb : (x == ("__debug__" : Str)) = false := by decide) : TyOk X (.Name x p) t := ⟨pe_bltn hg hm hv rfl hn hdb⟩
theorem is_read {K : PySem.W.Frag} {tys : List Ty} {σ : L2.St} {H : Hp} {Q : VK} (h : tE K F (.isi ia tys) σ H Q) : tE K F ia σ H fun v H1 => ∃ S μ x, Good K S μ H1 ∧ Seen K S μ H1 x v ∧ (∀ i, x ≠ .ref i) ∧ ∀ H2, Good K S μ H2 → Evo S μ H1 S μ H2 → Q (.bl (tys.any (isTy x))) H2 := by
  obtain ⟨ρ, S, μ, d, S', g, r, q, k⟩ := h
  simp only [ev] at q
  split at q
  · rename_i x S1 ea
    split at q
    · rename_i x' sx
      cases q
      exact ⟨ρ, S, μ, x, _, g, r, ea, fun v μ1 H1 g1 e1 rv => ⟨_, μ1, x', g1, see_ok g1 rv sx, see_noref sx, fun H2 g2 e2 => k _ _ _ g2 (e1.trans e2) rfl⟩⟩
    · cases q
  · cases q
theorem seen_mono {K : PySem.W.Frag} {S : Sto} {μ : Mu} {H H' : Hp} (g : Good K S μ H) (e : Evo S μ H S μ H') (hw : ∀ (i : Nat) (xs : List D) (a : Addr), S[i]? = some (some xs) → μ.ps[i]? = some a → H' a = H a) {x : D} {v : V} (h : Seen K S μ H x v) : Seen K S μ H' x v := by
  cases x with
  | lst xs =>
    obtain ⟨a, vs, e1, q, r⟩ := h
    refine ⟨a, vs, e1, ?_, r.mono g e.w⟩
    rcases q with (q | ⟨o, q⟩) | q
    · by_cases l : Live S μ a
      · rcases l with ⟨i, ys, e2, m⟩ | l
        · exact .inl (.inl (by rw [hw i ys a e2 m]; exact q))
        · exact .inl (.inl (e.hold a _ l q))
      · exact .inl (.inl (e.w.old a _ q l).1)
    · refine .inl (.inr ⟨o, (e.w.old a _ q (g.notLive fun ws z => ?_)).1⟩)
      rw [q] at z; cases z
    · exact .inr q
  | non => exact Rep.mono g e.w h
  | bl _ => exact Rep.mono g e.w h
  | int _ => exact Rep.mono g e.w h
  | str _ => exact Rep.mono g e.w h
  | tup _ => exact Rep.mono g e.w h
  | ref _ => exact Rep.mono g e.w h
theorem i_is1 {t : Ty} {p : Pos} {tn : Expr} (hg : Gl X "isinstance") (hm : X.mg "isinstance" = none) (ha : PE X a (tE X.K F ia)) (ht : TyOk X tn t)
    (he : starEach [a, tn] X.env = (false, eval a X.env) :: starEach [tn] X.env := by rfl) (h2 : starEach [tn] X.env = (false, eval tn X.env) :: starEach [] X.env := by rfl) (hpl : (backTo pos (starEach [tn] X.env)).any (·.1) = false := by rfl) :
    PE X (.Call (.Name "isinstance" p) [a, tn] [] pos) (tE X.K F (.isi ia [t])) :=
  PE.weak (pe_callB (r := rIsO X.K [t] true) call_isO hg hm PyProof.Rows.boot_isinstance (pa_cons ha (pa_cons ht.pe pa_nil h2) he) (by decide) (by decide) he hpl) fun σ H Q h => by
    obtain ⟨ρ, S, μ, d, S', g, r, q, k⟩ := is_read h
    exact ⟨ρ, S, μ, d, S', g, r, q, fun v μ' H' g' e' rv => by
      obtain ⟨S2, μ2, x, g2, hx, nr, kk⟩ := k v μ' H' g' e' rv
      exact ⟨S2, μ2, x, v, g2, hx, nr, .inl ⟨rfl, t, rfl, rfl⟩, kk H' g2 (Evo.refl _ _ _)⟩⟩
/-- isinstance(x, (T1, T2, ..)) -/
structure TysOk (X : Cx) (es : List Expr) (ts : List Ty) : Prop where
  pa : PA X es (fun _ H Q => Q (ts.map fun t => V.ty (tyS t)) H)
theorem tys_nil : TysOk X [] [] := ⟨pa_nil⟩
theorem tys_cons {t : Ty} {ts : List Ty} (h : TyOk X a t) (hr : TysOk X es ts) (hs : starEach (a :: es) X.env = (false, eval a X.env) :: starEach es X.env := by rfl) : TysOk X (a :: es) (t :: ts) := ⟨pa_cons h.pe hr.pa hs⟩
theorem i_isT {ts : List Ty} {p pt : Pos} {kt : Nat} {tes : List Expr} (hz : ts.length ≤ 20) (hg : Gl X "isinstance") (hm : X.mg "isinstance" = none) (ha : PE X a (tE X.K F ia)) (ht : TysOk X tes ts)
    (he : starEach [a, .Tuple tes kt pt] X.env = (false, eval a X.env) :: starEach [.Tuple tes kt pt] X.env := by rfl) (h2 : starEach [.Tuple tes kt pt] X.env = (false, eval (.Tuple tes kt pt) X.env) :: starEach [] X.env := by rfl) (hpl : (backTo pos (starEach [.Tuple tes kt pt] X.env)).any (·.1) = false := by rfl) :
    PE X (.Call (.Name "isinstance" p) [a, .Tuple tes kt pt] [] pos) (tE X.K F (.isi ia ts)) :=
  PE.weak (pe_callB (r := rIsO X.K ts false) call_isO hg hm PyProof.Rows.boot_isinstance (pa_cons ha (pa_cons (pe_tup ht.pa) pa_nil h2) he) (by decide) (by decide) he hpl) fun σ H Q h => by
    obtain ⟨ρ, S, μ, d, S', g, r, q, k⟩ := is_read h
    refine ⟨ρ, S, μ, d, S', g, r, q, fun v μ' H' g' e' rv => ?_⟩
    obtain ⟨S2, μ2, x, g2, hx, nr, kk⟩ := k v μ' H' g' e' rv
    refine ⟨by rw [List.length_map, sizeLine_eq]; omega, fun pp hp => ?_⟩
    have ev := evo_new (o := .tup (ts.map fun t => V.ty (tyS t))) g2 hp
    refine ⟨S2, μ2, x, v, good_new g2 hp, seen_mono g2 ev (fun i xs b e1 m => upd_ne fun z => ?_) hx, nr, .inr ⟨rfl, pp, rfl, upd_same⟩, kk _ (good_new g2 hp) ev⟩
    subst z
    exact g2.none_notLive hp (.inl ⟨i, xs, e1, m⟩)

theorem tA_nil {K : PySem.W.Frag} {ρ : Env} {S : Sto} : evs F .nil ρ S = some ([], S) := by simp only [evs]
def ME.txt : ME → Bool
  | .join => true
  | .lower => true
  | .isalpha => true
  | .isalnum => true
  | _ => false
theorem me_read {K : PySem.W.Frag} {m : ME} {T : String} {σ : L2.St} {H : Hp} {Q : VK} (hT : T = if m.txt = true then "str" else "list") : tE K F (.meth m ia ies) σ H Q →
    tE K F ia σ H fun x H1 => tyV K T x H1 ∧ tA K F ies σ H1 fun vs H2 => rMe K m x vs H2 Q := fun ⟨ρ, S, μ, d, S', g, r, q, k⟩ => by
  simp only [ev] at q
  split at q
  · cases q
  · rename_i o S1 ea
    split at q
    case isFalse => cases q
    rename_i hsee
    split at q
    · cases q
    · rename_i xs S2 eb
      refine ⟨ρ, S, μ, o, S1, g, r, ea, fun v μ1 H1 g1 e1 rv => ⟨?_, ρ, S1, μ1, xs, S2, g1, r.mono g e1.w, eb, fun vs μ2 H2 g2 e2 rvs => ⟨S2, μ2, o, xs, S', d, g2, rv.mono g1 e2.w, rvs, q, fun v' μ' H' g3 e3 rz => k v' μ' H' g3 ((e1.trans e2).trans e3) rz⟩⟩⟩
      by_cases hj : m.txt = true
      · rw [if_pos hj] at hT
        subst hT
        have hs : ∃ x, o = .str x := by
          unfold meD at q
          split at q <;> first | (cases q; done) | (exact ⟨_, rfl⟩) | (cases hj; done)
        obtain ⟨x, rfl⟩ := hs
        cases (show v = V.str x from rv)
        rfl
      · rw [if_neg hj] at hT
        subst hT
        cases o with
        | ref i =>
          obtain ⟨a, rfl, ma⟩ := rv
          cases hS : S1[i]? with
          | none => exact absurd ma (by rw [List.getElem?_eq_none (by rw [g1.len]; exact List.getElem?_eq_none_iff.mp hS)]; intro z; cases z)
          | some oo =>
            cases oo with
            | none => simp [see, hS] at hsee
            | some ys =>
              obtain ⟨b, ws, mb, hb, _⟩ := g1.at_ i ys hS
              rw [ma] at mb; cases mb
              exact .inl ⟨rfl, ws, SqL.of hb⟩
        | lst ys =>
          obtain ⟨a, vs, rfl, qa, _⟩ := rv.lsR
          exact .inl ⟨rfl, vs, qa.l⟩
        | _ => unfold meD at q; cases m <;> first | (exact absurd rfl hj) | (simp at q)
/-- what a method's name stands for -/
structure MeF (m : ME) (T : String) (name : Str) (id : String) : Prop where
  pa : PlainAttrs T
  slot : Slot T name id
  ty : typeOf (.builtin id) = pure (.type "method_descriptor")
  id_ : meId m = id
  t : T = if m.txt = true then "str" else "list"
theorem mf_append : MeF .append "list" "append" "list.append" := ⟨PySem.F.plainAttrs_list, PySem.F.slot_list_append, PySem.F.type_list_append, rfl, rfl⟩
theorem mf_extend : MeF .extend "list" "extend" "list.extend" := ⟨PySem.F.plainAttrs_list, PySem.F.slot_list_extend, PySem.F.type_list_extend, rfl, rfl⟩
theorem mf_pop : MeF .pop "list" "pop" "list.pop" := ⟨PySem.F.plainAttrs_list, PySem.F.slot_list_pop, PySem.F.type_list_pop, rfl, rfl⟩
theorem mf_popAt : MeF .popAt "list" "pop" "list.pop" := ⟨PySem.F.plainAttrs_list, PySem.F.slot_list_pop, PySem.F.type_list_pop, rfl, rfl⟩
theorem mf_join : MeF .join "str" "join" "str.join" := ⟨PySem.F.plainAttrs_str, PySem.F.slot_str_join, PySem.F.type_str_join, rfl, rfl⟩
theorem mf_lower : MeF .lower "str" "lower" "str.lower" := ⟨PySem.F.plainAttrs_str, PySem.F.slot_str_lower, PySem.F.type_str_lower, rfl, rfl⟩
theorem mf_isalpha : MeF .isalpha "str" "isalpha" "str.isalpha" := ⟨PySem.F.plainAttrs_str, PySem.F.slot_str_isalpha, PySem.F.type_str_isalpha, rfl, rfl⟩
theorem mf_isalnum : MeF .isalnum "str" "isalnum" "str.isalnum" := ⟨PySem.F.plainAttrs_str, PySem.F.slot_str_isalnum, PySem.F.type_str_isalnum, rfl, rfl⟩
theorem mf_index : MeF .index "list" "index" "list.index" := ⟨PySem.F.plainAttrs_list, PySem.F.slot_list_index, PySem.F.type_list_index, rfl, rfl⟩
theorem i_me0 {o : Expr} {m : ME} {T : String} {name : Str} {id : String} {apos : Pos} (M : MeF m T name id) (ho : PE X o (tE X.K F ia)) (hbase : attributeBase o name X.env (eval o X.env) = eval o X.env := by rfl) (hline : (apos.endLine == pos.line) = true := by rfl) :
    PE X (.Call (.Attribute o name apos) [] [] pos) (tE X.K F (.meth m ia .nil)) :=
  PE.weak (pe_bm0 (r := rMe X.K m) M.pa M.slot M.ty (by rw [← M.id_]; exact me_run m) ho hbase hline) fun σ H Q h => by
    obtain ⟨ρ, S, μ, d, S', g, r, q, k⟩ := me_read M.t h
    exact ⟨ρ, S, μ, d, S', g, r, q, fun v μ' H' g' e' rv => by
      obtain ⟨h1, ρ2, S2, μ2, xs, S3, g2, r2, q2, k2⟩ := k v μ' H' g' e' rv
      simp only [evs] at q2
      cases q2
      exact ⟨h1, k2 [] μ2 H' g2 (Evo.refl _ _ _) rfl⟩⟩
theorem i_me {o : Expr} {m : ME} {T : String} {name : Str} {id : String} {apos : Pos} (M : MeF m T name id) (ho : PE X o (tE X.K F ia)) (ha : PA X (e :: es) (tA X.K F ies)) (hbase : attributeBase o name X.env (eval o X.env) = eval o X.env := by rfl)
    (hfew : ((backTo pos (starEach (e :: es) X.env)).all (fun x => !x.1) && (backToKw pos (keywordEach [] X.env)).all (fun x => x.1.isSome)
      && decide ((e :: es).length + ([] : List Keyword).length + (if ([] : List Keyword).isEmpty then 0 else 1) < 30)) = true := by rfl)
    (hline : (apos.endLine == pos.line) = true := by rfl) (hs : starEach (e :: es) X.env = (false, eval e X.env) :: starEach es X.env := by rfl) (hplain : (backTo pos (starEach es X.env)).any (·.1) = false := by rfl) :
    PE X (.Call (.Attribute o name apos) (e :: es) [] pos) (tE X.K F (.meth m ia ies)) :=
  PE.weak (pe_bm (r := rMe X.K m) M.pa M.slot M.ty (by rw [← M.id_]; exact me_run m) ho ha hbase hfew hline hs hplain) fun σ H Q h => me_read M.t h
end

section
variable {X : Cx} {F : CF} {a b c e : Expr} {es : List Expr} {ia ib ic ie : E} {ies : Es} {pos : Pos}
def slotsT : Tg → List Nat
  | .n i => [i]
  | .t is => is
/-- a target's reading -/
def gT (K : PySem.W.Frag) (t : Tg) : TG := fun v σ H Q => ∃ (d : D) (ρ ρ' : Env) (S : Sto) (μ : Mu), Good K S μ H ∧ RelS K S μ H ρ σ ∧ Rep K S μ H d v ∧ setT t d ρ = some ρ' ∧
  ∀ σ', RelS K S μ H ρ' σ' → σ'.length = σ.length → (∀ j, j ∉ slotsT t → σ'[j]? = σ[j]?) → Q σ' H
theorem PG.weak {tg : Expr} {t t' : TG} (h : PG X tg t) (k : ∀ v σ H Q, t' v σ H Q → t v σ H Q) : PG X tg t' := ⟨fun pins s σ H v u Q I r q => h.run pins s σ H v u Q I r (k v σ H Q q)⟩
theorem g_n {i : Nat} {x : Str} (ok : Cok X) (hi : X.N[i]? = some x) (hx : Loc X.env.scope x) (hf : X.fn x = true ∨ X.env.scope.names.lookup x = some .local := by first | exact .inl rfl | exact .inr rfl | assumption) : PG X (.Name x pos) (gT X.K (.n i)) :=
  PG.weak (pg_name ok.nd hi hx hf) fun v σ H Q ⟨d, ρ, ρ', S, μ, g, r, rv, st, k⟩ => by
    cases st
    exact k _ (r.set i rv) (by rw [List.length_set]) fun j hj => List.getElem?_set_ne (by intro z; exact hj (by simp [slotsT, z]))
/-- several names -/
inductive Names (X : Cx) : List Expr → List Nat → Prop where
  | nil : Names X [] []
  | cons {i : Nat} {x : Str} {p : Pos} {es : List Expr} {is : List Nat} (hi : X.N[i]? = some x) (hx : Loc X.env.scope x) (hf : X.fn x = true ∨ X.env.scope.names.lookup x = some .local) (t : Names X es is) : Names X (.Name x p :: es) (i :: is)
def gNames : List Nat → TGs
  | [] => gNil
  | i :: is => gCons (gName i) (gNames is)
theorem pgs_names (nd : X.N.Nodup) : ∀ {es : List Expr} {is : List Nat}, Names X es is → PGs X es (gNames is)
  | _, _, .nil => pgs_nil
  | _, _, .cons hi hx hf t => pgs_cons (pg_name nd hi hx hf) (pgs_names nd t)
theorem names_read {K : PySem.W.Frag} {S : Sto} {μ : Mu} {H : Hp} {Q : L2.St → Hp → Prop} : ∀ (is : List Nat) (ds : List D) (vs : List V) (ρ : Env) (σ : L2.St), ds.length = is.length → Reps K S μ H ds vs → RelS K S μ H ρ σ →
    (∀ σ', RelS K S μ H ((is.zip ds).foldl (fun r p => r.set p.1 (some p.2)) ρ) σ' → σ'.length = σ.length → (∀ j, j ∉ is → σ'[j]? = σ[j]?) → Q σ' H) → gNames is vs σ H Q
  | [], [], vs, ρ, σ, _, rv, r, k => by
    cases (show vs = [] from rv)
    exact ⟨rfl, k σ r rfl fun _ _ => rfl⟩
  | [], _ :: _, _, _, _, h, _, _, _ => by cases h
  | _ :: _, [], _, _, _, h, _, _, _ => by cases h
  | i :: is, d :: ds, vs, ρ, σ, h, rv, r, k => by
    obtain ⟨v, ws, rfl, h1, h2⟩ := rv
    refine ⟨v, ws, rfl, names_read is ds ws (ρ.set i (some d)) (σ.set i (some v)) (by simpa using h) h2 (r.set i h1) fun σ' r' l' n' => k σ' r' (by rw [l', List.length_set]) fun j hj => ?_⟩
    rw [n' j fun z => hj (List.mem_cons_of_mem _ z), List.getElem?_set_ne]
    intro z
    exact hj (by rw [z]; exact List.mem_cons_self)
theorem names_each : ∀ {es : List Expr} {is : List Nat}, Names X es is → (assignEach es X.env).length = is.length ∧ (assignEach es X.env).findIdx? (·.1) = none
  | _, _, .nil => ⟨rfl, rfl⟩
  | _, _, .cons (x := x) (p := p) (es := es) hi hx hf t => by
    obtain ⟨h1, h2⟩ := names_each t
    have e : assignEach (.Name x p :: es) X.env = (false, assign (.Name x p) X.env) :: assignEach es X.env := rfl
    rw [e]
    refine ⟨by rw [List.length_cons, List.length_cons, h1], ?_⟩
    rw [List.findIdx?_cons, h2]
    rfl
theorem g_t {is : List Nat} {k : Nat} (ok : Cok X) (N : Names X es is) : PG X (.Tuple es k pos) (gT X.K (.t is)) := by
  have ht : PG X (.Tuple es k pos) _ := pg_tup (n := is.length) ok.calm (pgs_names ok.nd N) (names_each N).1 (names_each N).2
  have hl : PG X (.Tuple es k pos) _ := pg_lst (n := is.length) ok.calm (pgs_names ok.nd N) (names_each N).1 (names_each N).2
  refine ⟨fun pins s σ H v u Q I r ⟨d, ρ, ρ', S, μ, g, re, rv, st, kk⟩ => ?_⟩
  cases d with
  | tup ds =>
    simp only [setT] at st
    split at st
    · rename_i hz
      cases st
      obtain ⟨a, vs, rfl, q, rr⟩ := rv
      exact ht.run pins s σ H _ u Q I r ⟨a, vs, rfl, q, by rw [← rr.length]; exact hz, names_read is ds vs ρ σ hz rr re kk⟩
    · cases st
  | lst ds =>
    simp only [setT] at st
    split at st
    · rename_i hz
      cases st
      obtain ⟨a, vs, rfl, q, rr⟩ := rv
      exact hl.run pins s σ H _ u Q I r ⟨a, vs, rfl, SqP.l (q.elim (fun z => .inl z.1) .inr), by rw [← rr.length]; exact hz, names_read is ds vs ρ σ hz rr re kk⟩
    · cases st
  | _ => cases st
end
end Iv

set_option Elab.async false
set_option linter.all false
set_option maxRecDepth 100000
set_option maxHeartbeats 1000000
namespace Iv
open PySem PySem.Spec PyProof.Rows L2

/-- a tuple at a beside a list at b -/
def ItM (K : PySem.W.Frag) (a b : Addr) : It :=
  ⟨fun i H => ∃ (xs ys : List V) (x y : V), SqT K H a xs ∧ SqL K H b ys ∧ xs[i]? = some x ∧ ys[i]? = some y,
   fun i H v H' => ∃ T x y, v = .ref T ∧ H T = none ∧ H' = upd H T (.tup [x, y]) ∧ (∀ xs, SqT K H a xs → xs[i]? = some x) ∧ (∀ ys, SqL K H b ys → ys[i]? = some y),
   fun i H => ∃ xs ys : List V, SqT K H a xs ∧ SqL K H b ys ∧ i ≤ xs.length ∧ i ≤ ys.length ∧ (i = xs.length ∨ i = ys.length)⟩
/-- how the zip stands behind i turns -/
def StM (z TI TO i1 i2 a b : Addr) (i : Nat) (h : Heap) : Prop := IsZip h z TI TO .none ∧ IsTupOf2 h TI (.ref i1) (.ref i2) ∧ (∃ x y, IsTupOf2 h TO x y) ∧ h.IsTupleIter i1 a i ∧ h.IsListIter i2 b i
theorem cases5 {c z TI TO i1 i2 : Addr} {P : Addr → Prop} (h : c ∈ [z, TI, TO, i1, i2]) (p1 : P z) (p2 : P TI) (p3 : P TO) (p4 : P i1) (p5 : P i2) : P c := by
  simp only [List.mem_cons, List.not_mem_nil, or_false] at h
  rcases h with rfl | rfl | rfl | rfl | rfl <;> assumption
theorem turnM {P : Program} {w : World} {K : PySem.W.Frag} {elts : List Expr} {kk : Nat} {tpos : Pos} {a b z TI TO i1 i2 : Addr} (D : ZipSep2 z TI TO i1 i2 [i1, a] [i2, b]) :
    Turn P w K (.Tuple elts kk tpos) (ItM K a b) [z, TI, TO, i1, i2] z (StM z TI TO i1 i2 a b) where
  mem := List.mem_cons_self
  obj := fun i h ⟨hz, hTI, ⟨x, y, hTO⟩, ⟨o1, e1, _, d1⟩, ⟨o2, e2, _, d2⟩⟩ c hc =>
    cases5 (P := fun c => ∃ o, h.get? c = some o ∧ ∀ v, o.data ≠ .cell v) hc ⟨_, hz, fun v q => nomatch q⟩ ⟨_, hTI, fun v q => nomatch q⟩ ⟨_, hTO, fun v q => nomatch q⟩ ⟨o1, e1, fun v q => by rw [d1] at q; cases q⟩ ⟨o2, e2, fun v q => by rw [d2] at q; cases q⟩
  keep := fun i h h' ⟨hz, hTI, ⟨x, y, hTO⟩, h1, h2⟩ k =>
    ⟨k z (by simp) _ hz, k TI (by simp) _ hTI, ⟨x, y, k TO (by simp) _ hTO⟩, h1.at fun o q => k i1 (by simp) o q, h2.at fun o q => k i2 (by simp) o q⟩
  item := by
    intro X hP hw hK hc i pins s σ H E I hf ⟨hz, hTI, ⟨x0, y0, hTO⟩, h1, h2⟩ ⟨xs, ys, x, y, qx, qy, hx, hy⟩
    subst hP hw hK
    obtain ⟨its, rv, p, _⟩ := I.tuple qx
    obtain ⟨its2, rv2, p2, _⟩ := I.list qy
    obtain ⟨u, hu, ru⟩ := rv.get hx
    obtain ⟨u2, hu2, ru2⟩ := rv2.get hy
    have lt1 : i < its.toArray.size := by rw [List.size_toArray]; exact (List.getElem?_eq_some_iff.mp hu).1
    have lt2 : i < its2.toArray.size := by rw [List.size_toArray]; exact (List.getElem?_eq_some_iff.mp hu2).1
    have zl : z < s.heap.objs.size := Heap.lt_size hz
    have na : a ≠ i1 := fun q => by
      subst q
      obtain ⟨o, e, c1, _⟩ := h1
      obtain ⟨o2, e2, c2, _⟩ := p
      rw [e] at e2; cases e2
      rw [c1] at c2
      injection c2 with c3
      exact absurd c3 (by decide)
    have nb : b ≠ i2 := fun q => by
      subst q
      obtain ⟨o, e, c1, _⟩ := h2
      obtain ⟨o2, e2, c2, _⟩ := p2.isList
      rw [e] at e2; cases e2
      rw [c1] at c2
      injection c2 with c3
      exact absurd c3 (by decide)
    refine wpAny_pyNext_zipD2_item D (Draws.tuple (A := X.A.in1) (I.ok.hd hc) i1 a na its.toArray) (Draws.list (A := X.A.in1) (I.ok.hd hc) i2 b nb its2.toArray) hz hTI hTO ⟨h1, p⟩ ⟨h2, p2.isList⟩ lt1 lt2 fun y1 y2 h' tk hy1 hy2 z' TO' st1 st2 hT hsz hk => ?_
    have ey1 : u = y1 := by
      rw [List.getElem?_toArray] at hy1
      rw [hu] at hy1
      exact Option.some.inj hy1
    have ey2 : u2 = y2 := by
      rw [List.getElem?_toArray] at hy2
      rw [hu2] at hy2
      exact Option.some.inj hy2
    subst ey1 ey2
    refine ⟨_, rfl, wpAny_letOwnedTupleGo_zip (s := { s with heap := h', toks := tk }) z' fun h2' z2' sb => ?_⟩
    have hT2 : IsTupOf2 h2' s.heap.objs.size u u2 := (sb.2 _ (Nat.ne_of_gt zl)).trans hT
    have ok2 : ObjOk X.prog X.w (upd H s.heap.objs.size (.tup [x, y])) h2' s.heap.objs.size (.tup [x, y]) := ⟨(by decide : 2 ≤ sizeLine), [u, u2], .cons ru (.cons ru2 .nil), _, hT2, rfl, _, rfl⟩
    have J : Inv X pins σ (upd H s.heap.objs.size (.tup [x, y])) { s with heap := h2', toks := tk } :=
      I.turnedNew (t' := tk) (ch := [z, TI, TO, i1, i2]) (fun c o hb q => by
        simp only [List.mem_cons, List.not_mem_nil, or_false, not_or] at hb
        exact (sb.2 c hb.1).trans (hk c o hb.1 hb.2.2.1 hb.2.2.2.1 hb.2.2.2.2 q)) hf (Nat.le_refl _) ok2
    refine ⟨.ref s.heap.objs.size, _, J, rfl, ⟨_, x, y, rfl, I.hok.fresh (Nat.le_refl _), rfl, fun l hl => (I.tuple_inj hl qx) ▸ hx, fun l hl => (I.list_inj hl qy) ▸ hy⟩, ?_, fun c hc => ?_⟩
    · exact ⟨z2', (sb.2 _ D.TIz).trans (hk _ _ D.TIz D.TITO D.TIi1 D.TIi2 hTI), ⟨u, u2, (sb.2 _ D.TOz).trans TO'⟩, st1.1.at fun o q => (sb.2 _ D.zi1.symm).trans q, st2.1.at fun o q => (sb.2 _ D.zi2.symm).trans q⟩
    · have hlt : c < s.heap.objs.size := by
        obtain ⟨_, e1, _⟩ := h1
        obtain ⟨_, e2, _⟩ := h2
        exact cases5 (P := fun c => c < s.heap.objs.size) hc zl (Heap.lt_size hTI) (Heap.lt_size hTO) (Heap.lt_size e1) (Heap.lt_size e2)
      rw [upd_ne (Nat.ne_of_lt hlt)]
      exact (hf c hc).1
  done := by
    intro X hP hw hK hc i pins s σ H E I hf ⟨hz, hTI, ⟨x0, y0, hTO⟩, h1, h2⟩ ⟨xs, ys, qx, qy, l1, l2, he⟩
    subst hP hw hK
    obtain ⟨its, rv, p, _⟩ := I.tuple qx
    obtain ⟨its2, rv2, p2, _⟩ := I.list qy
    have n1 := rv.length
    have n2 := rv2.length
    have na : a ≠ i1 := fun q => by
      subst q
      obtain ⟨o, e, c1, _⟩ := h1
      obtain ⟨o2, e2, c2, _⟩ := p
      rw [e] at e2; cases e2
      rw [c1] at c2
      injection c2 with c3
      exact absurd c3 (by decide)
    have nb : b ≠ i2 := fun q => by
      subst q
      obtain ⟨o, e, c1, _⟩ := h2
      obtain ⟨o2, e2, c2, _⟩ := p2.isList
      rw [e] at e2; cases e2
      rw [c1] at c2
      injection c2 with c3
      exact absurd c3 (by decide)
    refine wpAny_pyNext_zipD2_end D (Draws.tuple (A := X.A.in1) (I.ok.hd hc) i1 a na its.toArray) (Draws.list (A := X.A.in1) (I.ok.hd hc) i2 b nb its2.toArray) hz hTI hTO ⟨h1, p⟩ ⟨h2, p2.isList⟩ (by rw [List.size_toArray]; omega) (by rw [List.size_toArray]; omega) (by rw [List.size_toArray, List.size_toArray]; omega) fun h' tk hk => ⟨rfl, ?_⟩
    exact I.turnedL (t' := tk) (ch := [z, TI, TO, i1, i2]) (fun c o hb q => by
      simp only [List.mem_cons, List.not_mem_nil, or_false, not_or] at hb
      exact hk c o hb.1 hb.2.2.1 hb.2.2.2.1 hb.2.2.2.2 q) hf
  self := fun A i s Q E st h => wpAny_pyIter_zip st.1 h
theorem neN {x y : Nat} (h : x ≠ y) : x ≠ y := h
theorem notin2 {x p q : Nat} (h1 : x ≠ p) (h2 : x ≠ q) : x ∉ [p, q] := fun h => by
  rcases List.mem_cons.mp h with z | z
  · exact h1 z
  · exact h2 (List.mem_singleton.mp z)
theorem sep5 {n a b : Nat} (la : a < n) (lb : b < n) : ZipSep2 (n + 4) (n + 2) (n + 3) n (n + 1) [n, a] [n + 1, b] where
  TIz := neN (by omega)
  TOz := neN (by omega)
  TITO := neN (by omega)
  TIi1 := neN (by omega)
  mem1 := List.mem_cons_self
  zf1 := notin2 (by omega) (by omega)
  Tf1 := notin2 (by omega) (by omega)
  TIi2 := neN (by omega)
  mem2 := List.mem_cons_self
  zf2 := notin2 (by omega) (by omega)
  Tf2 := notin2 (by omega) (by omega)
  sep1_2 := notin2 (by omega) (by omega)
  sep2_1 := notin2 (by omega) (by omega)
def iZipM (K : PySem.W.Frag) (ta : TA) : TI := fun σ H R => ta σ H fun vs H1 => ∃ a b xs ys, vs = [.ref a, .ref b] ∧ SqT K H1 a xs ∧ SqL K H1 b ys ∧ R (ItM K a b) H1
theorem pi_zipM {X : Cx} {e e2 : Expr} {ta : TA} {p pos tpos : Pos} {elts : List Expr} {kk : Nat} (hg : Gl X "zip") (hm : X.mg "zip" = none) (ha : PA X [e, e2] ta) (hs : starEach [e, e2] X.env = (false, eval e X.env) :: starEach [e2] X.env := by rfl)
    (hpl : (backTo pos (starEach [e2] X.env)).any (·.1) = false := by rfl) : PI X (.Tuple elts kk tpos) (.Call (.Name "zip" p) [e, e2] [] pos) (iZipM X.K ta) := by
  refine ⟨fun pins s σ H R I h => Call_ (ld_blt I hg hm PyProof.Rows.boot_zip (PyProof.Rows.callWith_type1 (thn (ha.run pos pins s σ H _ I h) fun us s1 ⟨vs, H1, J, r1, q1⟩ => ?_) hs hpl))⟩
  obtain ⟨a, b, xs, ys, rfl, qx, qy, q⟩ := q1
  cases r1 with
  | cons ra rr => cases rr with
    | cons rb rr =>
      cases rr; cases ra; cases rb
      obtain ⟨its, rv, p1, _⟩ := J.tuple qx
      obtain ⟨its2, rv2, p2, _⟩ := J.list qy
      have la : a < s1.heap.objs.size := by obtain ⟨o, e, _⟩ := id p1; exact Heap.lt_size e
      have lb : b < s1.heap.objs.size := p2.lt
      refine zip_begins2 (begins_tuple a its.toArray) (begins_list b its2.toArray) p1 p2.isList fun h' hz hTI hTO g1 g2 hsz hk => wpAny_pyIter_zip hz ?_
      have J2 : Inv X pins σ H1 { s1 with heap := h' } := J.kept (t' := s1.toks) hk
      have h1 : h'.IsTupleIter s1.heap.objs.size a 0 := ⟨_, g1, rfl, rfl⟩
      have h2 : h'.IsListIter (s1.heap.objs.size + 1) b 0 := ⟨_, g2, rfl, rfl⟩
      have fr : ∀ c, s1.heap.objs.size ≤ c → FpOk X pins H1 c := fun c hc => J.fpOk hc (J.hok.fresh hc)
      exact ⟨s1.heap.objs.size + 4, _, _, _, H1, rfl, J2, turnM (sep5 la lb), ⟨hz, hTI, ⟨_, _, hTO⟩, h1, h2⟩, fun c hc => cases5 (P := FpOk X pins H1) hc (fr _ (by omega)) (fr _ (by omega)) (fr _ (by omega)) (fr _ (by omega)) (fr _ (by omega)), q⟩
end Iv

set_option Elab.async false
set_option linter.all false
set_option maxRecDepth 100000
set_option maxHeartbeats 1000000
namespace Iv
open PySem PySem.Spec PyProof.Rows L2

/-- J walks xs -/
def Walk (K : PySem.W.Frag) (S0 : Sto) (μ0 : Mu) (H0 : Hp) (J : It) (xs : List D) : Prop := ∀ (S : Sto) (μ : Mu) (H : Hp), Good K S μ H → EvoW S0 μ0 H0 S μ H →
  (∀ i, i < xs.length → J.go i H) ∧ J.stop xs.length H ∧ ∀ i v H', i < xs.length → J.yld i H v H' → ∃ d, xs[i]? = some d ∧ Good K S μ H' ∧ Evo S μ H S μ H' ∧ Rep K S μ H' d v
def tI (K : PySem.W.Frag) (F : CF) (ie : E) : TI := fun σ H R => ∃ (ρ : Env) (S : Sto) (μ : Mu) (d : D) (S' : Sto) (xs : List D), Good K S μ H ∧ RelS K S μ H ρ σ ∧ ev F ie ρ S = some (d, S') ∧ items d = some xs ∧
  ∀ J μ' H', Good K S' μ' H' → Evo S μ H S' μ' H' → Walk K S' μ' H' J xs → R J H'

theorem walk_list {K : PySem.W.Frag} {S : Sto} {μ : Mu} {H : Hp} {a : Addr} {vs : List V} {xs : List D} (g : Good K S μ H) (q : (Rd H a (.lst vs) ∧ ¬ Live S μ a) ∨ KL K a vs) (r : Reps K S μ H xs vs) : Walk K S μ H (Itl K a) xs := fun S' μ' H' g' e' => by
  have q' : SqL K H' a vs := by
    rcases q with q | q
    · exact .inl (rdL e' q.1 q.2).1
    · exact SqP.l (.inr q)
  have r' := r.mono g e'
  refine ⟨fun i hi => ?_, ⟨vs, q', by rw [r.length]; exact Nat.le_refl _⟩, fun i v H2 hi y => ?_⟩
  · obtain ⟨v, hv, _⟩ := r.get (List.getElem?_eq_getElem hi)
    exact ⟨vs, v, q', hv⟩
  · obtain ⟨rfl, y⟩ := y
    obtain ⟨w, hw, rw'⟩ := r'.get (List.getElem?_eq_getElem hi)
    have := y vs q'
    rw [hw] at this
    cases this
    exact ⟨_, List.getElem?_eq_getElem hi, g', Evo.refl _ _ _, rw'⟩
theorem walk_tup {K : PySem.W.Frag} {S : Sto} {μ : Mu} {H : Hp} {a : Addr} {vs : List V} {xs : List D} (g : Good K S μ H) (q : SqT K H a vs) (r : Reps K S μ H xs vs) : Walk K S μ H (Itt K a) xs := fun S' μ' H' g' e' => by
  have q' : SqT K H' a vs := sqT_mono g e' q
  have r' := r.mono g e'
  refine ⟨fun i hi => ?_, ⟨vs, q', by rw [r.length]; exact Nat.le_refl _⟩, fun i v H2 hi y => ?_⟩
  · obtain ⟨v, hv, _⟩ := r.get (List.getElem?_eq_getElem hi)
    exact ⟨vs, v, q', hv⟩
  · obtain ⟨rfl, y⟩ := y
    obtain ⟨w, hw, rw'⟩ := r'.get (List.getElem?_eq_getElem hi)
    have := y vs q'
    rw [hw] at this
    cases this
    exact ⟨_, List.getElem?_eq_getElem hi, g', Evo.refl _ _ _, rw'⟩
theorem walk_str {K : PySem.W.Frag} {S : Sto} {μ : Mu} {H : Hp} {x : Str} : Walk K S μ H (Its x) (x.cps.toList.map fun c => .str ⟨#[c]⟩) := fun S' μ' H' g' e' => by
  have hl : (x.cps.toList.map fun c => D.str ⟨#[c]⟩).length = x.cps.size := by simp
  refine ⟨fun i hi => by rw [hl] at hi; exact hi, by rw [hl]; exact Nat.le_refl _, fun i v H2 hi y => ?_⟩
  obtain ⟨rfl, c, hc, rfl⟩ := y
  exact ⟨.str ⟨#[c]⟩, by rw [List.getElem?_map, Array.getElem?_toList, hc]; rfl, g', Evo.refl _ _ _, rfl⟩
theorem walk_rng {K : PySem.W.Frag} {S : Sto} {μ : Mu} {H : Hp} {lo : Int} {n : Nat} : Walk K S μ H (Itr lo n) ((List.range n).map fun (k : Nat) => .int (lo + k)) := fun S' μ' H' g' e' => by
  have hl : ((List.range n).map fun (k : Nat) => D.int (lo + k)).length = n := by simp
  refine ⟨fun i hi => by rw [hl] at hi; exact hi, by rw [hl]; exact Nat.le_refl _, fun i v H2 hi y => ?_⟩
  obtain ⟨rfl, rfl⟩ := y
  rw [hl] at hi
  exact ⟨.int (lo + i), by rw [List.getElem?_map, List.getElem?_range hi]; rfl, g', Evo.refl _ _ _, rfl⟩

section
variable {X : Cx} {F : CF} {a b c e tg : Expr} {es : List Expr} {ia ib ic ie : E} {ies : Es} {pos : Pos}
theorem PI.weak {X : Cx} {tg e : Expr} {t t' : TI} (h : PI X tg e t) (k : ∀ σ H R, t' σ H R → t σ H R) : PI X tg e t' := ⟨fun pins s σ H R I q => h.run pins s σ H R I (k σ H R q)⟩
/-- a list, a tuple, a text -/
theorem it_e (ha : PE X a (tE X.K F ia)) : PI X tg a (tI X.K F ia) := by
  refine ⟨fun pins s σ H R I ⟨ρ, S, μ, d, S', xs, g, r, q, hi, k⟩ => ?_⟩
  cases d with
  | lst ys =>
    cases hi
    refine (pi_list ha).run pins s σ H R I ⟨ρ, S, μ, _, S', g, r, q, fun v μ1 H1 g1 e1 rv => ?_⟩
    obtain ⟨p, vs, rfl, qa, ra⟩ := rv
    exact ⟨p, rfl, ⟨vs, SqP.l (qa.elim (fun z => .inl z.1) .inr)⟩, k _ _ _ g1 e1 (walk_list g1 qa ra)⟩
  | tup ys =>
    cases hi
    refine (pi_tup ha).run pins s σ H R I ⟨ρ, S, μ, _, S', g, r, q, fun v μ1 H1 g1 e1 rv => ?_⟩
    obtain ⟨p, vs, rfl, qa, ra⟩ := rv
    exact ⟨p, rfl, ⟨vs, qa⟩, k _ _ _ g1 e1 (walk_tup g1 qa ra)⟩
  | str x =>
    cases hi
    refine (pi_str ha).run pins s σ H R I ⟨ρ, S, μ, _, S', g, r, q, fun v μ1 H1 g1 e1 rv => ?_⟩
    exact ⟨x, rv, k _ _ _ g1 e1 walk_str⟩
  | _ => cases hi
theorem it_rng1 {p : Pos} (hg : Gl X "range") (hm : X.mg "range" = none) (ha : PE X a (tE X.K F ia)) (hs : starEach [a] X.env = [(false, eval a X.env)] := by rfl) : PI X tg (.Call (.Name "range" p) [a] [] pos) (tI X.K F (.rng (.c (.int 0)) ia)) :=
  PI.weak (pi_range1 hg hm (a_cons ha a_nil hs) hs) fun σ H R ⟨ρ, S, μ, d, S', xs, g, r, q, hi, k⟩ => by
    simp only [ev] at q
    split at q
    · rename_i j S2 eb
      split at q
      · rename_i hb
        cases q
        cases hi
        rw [Bool.and_eq_true, Bool.and_eq_true, Bool.and_eq_true, decide_eq_true_eq, decide_eq_true_eq, decide_eq_true_eq, decide_eq_true_eq] at hb
        refine ⟨ρ, S, μ, [.int j], S', g, r, by simp only [evs, eb], fun vs μ1 H1 g1 e1 rv => ?_⟩
        obtain ⟨v, rfl, hv⟩ := reps1 rv
        cases (show v = V.int j from hv)
        refine ⟨j, rfl, hb.1.2, hb.2, k _ μ1 H1 g1 e1 ?_⟩
        rw [Int.sub_zero]
        exact walk_rng
      · cases q
    · cases q
theorem it_rng2 {p : Pos} (hg : Gl X "range") (hm : X.mg "range" = none) (ha : PE X a (tE X.K F ia)) (hb : PE X b (tE X.K F ib)) (hs : starEach [a, b] X.env = [(false, eval a X.env), (false, eval b X.env)] := by rfl) (hs2 : starEach [b] X.env = [(false, eval b X.env)] := by rfl) :
    PI X tg (.Call (.Name "range" p) [a, b] [] pos) (tI X.K F (.rng ia ib)) :=
  PI.weak (pi_range2 hg hm (a_cons ha (a_cons hb a_nil hs2) (by rw [hs, hs2])) hs hs2) fun σ H R ⟨ρ, S, μ, d, S', xs, g, r, q, hi, k⟩ => by
    simp only [ev] at q
    split at q
    · rename_i i S1 ea
      split at q
      · rename_i j S2 eb
        split at q
        · rename_i hb
          cases q
          cases hi
          rw [Bool.and_eq_true, Bool.and_eq_true, Bool.and_eq_true, decide_eq_true_eq, decide_eq_true_eq, decide_eq_true_eq, decide_eq_true_eq] at hb
          refine ⟨ρ, S, μ, [.int i, .int j], S', g, r, by simp only [evs, ea, eb], fun vs μ1 H1 g1 e1 rv => ?_⟩
          obtain ⟨v, ws, rfl, hv, hw⟩ := rv
          obtain ⟨w, rfl, hw2⟩ := reps1 hw
          cases (show v = V.int i from hv)
          cases (show w = V.int j from hw2)
          exact ⟨i, j, rfl, ⟨hb.1.1.1, hb.1.1.2, hb.1.2, hb.2⟩, k _ μ1 H1 g1 e1 walk_rng⟩
        · cases q
      · cases q
    · cases q
/-- zip of two lists of one length -/
theorem walk_zip {K : PySem.W.Frag} {S : Sto} {μ : Mu} {H : Hp} {a b : Addr} {vs ws : List V} {xs ys : List D} (g : Good K S μ H) (q : (Rd H a (.lst vs) ∧ ¬ Live S μ a) ∨ KL K a vs) (r : Reps K S μ H xs vs) (q2 : (Rd H b (.lst ws) ∧ ¬ Live S μ b) ∨ KL K b ws) (r2 : Reps K S μ H ys ws)
    (hl : xs.length = ys.length) : Walk K S μ H (Itz K a b) ((xs.zip ys).map fun p => .tup [p.1, p.2]) := fun S' μ' H' g' e' => by
  have lst : ∀ {c : Addr} {us : List V}, (Rd H c (.lst us) ∧ ¬ Live S μ c) ∨ KL K c us → SqL K H' c us := fun q => by
    rcases q with q | q
    · exact .inl (rdL e' q.1 q.2).1
    · exact SqP.l (.inr q)
  have qa := lst q
  have qb := lst q2
  have ra := r.mono g e'
  have rb := r2.mono g e'
  have hz : ((xs.zip ys).map fun p => D.tup [p.1, p.2]).length = xs.length := by rw [List.length_map, List.length_zip]; omega
  refine ⟨fun i hi => ?_, ⟨vs, ws, qa, qb, .inl (by rw [hz, r.length]; exact Nat.le_refl _)⟩, fun i v H2 hi y => ?_⟩
  · rw [hz] at hi
    obtain ⟨v, hv, _⟩ := r.get (List.getElem?_eq_getElem hi)
    obtain ⟨w, hw, _⟩ := r2.get (List.getElem?_eq_getElem (show i < ys.length by omega))
    exact ⟨vs, ws, v, w, qa, qb, hv, hw⟩
  · rw [hz] at hi
    obtain ⟨T, x, y', rfl, hT, rfl, h1, h2⟩ := y
    have hi2 : i < ys.length := by omega
    obtain ⟨v, hv, rv⟩ := ra.get (List.getElem?_eq_getElem hi)
    obtain ⟨w, hw, rw'⟩ := rb.get (List.getElem?_eq_getElem hi2)
    have e1 := h1 vs qa
    have e2 := h2 ws qb
    rw [hv] at e1; cases e1
    rw [hw] at e2; cases e2
    refine ⟨.tup [xs[i], ys[i]], ?_, good_new g' hT, evo_new g' hT, rep_tup_new g' hT ⟨_, _, rfl, rv, _, _, rfl, rw', rfl⟩⟩
    rw [List.getElem?_map, List.getElem?_eq_getElem (by rw [List.length_zip]; omega), List.getElem_zip]
    rfl
theorem it_zip {elts : List Expr} {kk : Nat} {p tpos : Pos} (hg : Gl X "zip") (hm : X.mg "zip" = none) (ha : PE X a (tE X.K F ia)) (hb : PE X b (tE X.K F ib)) (hs : starEach [a, b] X.env = (false, eval a X.env) :: starEach [b] X.env := by rfl) (hs2 : starEach [b] X.env = (false, eval b X.env) :: starEach [] X.env := by rfl)
    (hpl : (backTo pos (starEach [b] X.env)).any (·.1) = false := by rfl) : PI X (.Tuple elts kk tpos) (.Call (.Name "zip" p) [a, b] [] pos) (tI X.K F (.zip ia ib)) :=
  PI.weak (pi_zip hg hm (a_cons ha (a_cons hb a_nil hs2) hs) hs hpl) fun σ H R ⟨ρ, S, μ, d, S', xs, g, r, q, hi, k⟩ => by
    simp only [ev] at q
    split at q
    · rename_i as S1 ea
      split at q
      · rename_i bs S2 eb
        split at q
        · rename_i hl
          cases q
          cases hi
          refine ⟨ρ, S, μ, [.lst as, .lst bs], S', g, r, by simp only [evs, ea, eb], fun vs μ1 H1 g1 e1 rv => ?_⟩
          obtain ⟨v, ws, rfl, hv, hw⟩ := rv
          obtain ⟨w, rfl, hw2⟩ := reps1 hw
          obtain ⟨p1, vs, rfl, qa, ra⟩ := hv
          obtain ⟨p2, ws, rfl, qb, rb⟩ := hw2
          exact ⟨p1, p2, vs, ws, rfl, SqP.l (qa.elim (fun z => .inl z.1) .inr), SqP.l (qb.elim (fun z => .inl z.1) .inr), k _ μ1 H1 g1 e1 (walk_zip g1 qa ra qb rb hl)⟩
        · cases q
      · cases q
    · cases q
theorem walk_zipT {K : PySem.W.Frag} {S : Sto} {μ : Mu} {H : Hp} {a b : Addr} {vs ws : List V} {xs ys : List D} (g : Good K S μ H) (q : SqT K H a vs) (r : Reps K S μ H xs vs) (q2 : (Rd H b (.lst ws) ∧ ¬ Live S μ b) ∨ KL K b ws) (r2 : Reps K S μ H ys ws)
    (hl : xs.length = ys.length) : Walk K S μ H (ItM K a b) ((xs.zip ys).map fun p => .tup [p.1, p.2]) := fun S' μ' H' g' e' => by
  have qa : SqT K H' a vs := sqT_mono g e' q
  have qb : SqL K H' b ws := by
    rcases q2 with q | q
    · exact .inl (rdL e' q.1 q.2).1
    · exact SqP.l (.inr q)
  have ra := r.mono g e'
  have rb := r2.mono g e'
  have hz : ((xs.zip ys).map fun p => D.tup [p.1, p.2]).length = xs.length := by rw [List.length_map, List.length_zip]; omega
  have lv := r.length
  have lw := r2.length
  refine ⟨fun i hi => ?_, ⟨vs, ws, qa, qb, by omega, by omega, .inl (by omega)⟩, fun i v H2 hi y => ?_⟩
  · rw [hz] at hi
    obtain ⟨v, hv, _⟩ := r.get (List.getElem?_eq_getElem hi)
    obtain ⟨w, hw, _⟩ := r2.get (List.getElem?_eq_getElem (show i < ys.length by omega))
    exact ⟨vs, ws, v, w, qa, qb, hv, hw⟩
  · rw [hz] at hi
    obtain ⟨T, x, y', rfl, hT, rfl, h1, h2⟩ := y
    have hi2 : i < ys.length := by omega
    obtain ⟨v, hv, rv⟩ := ra.get (List.getElem?_eq_getElem hi)
    obtain ⟨w, hw, rw'⟩ := rb.get (List.getElem?_eq_getElem hi2)
    have e1 := h1 vs qa
    have e2 := h2 ws qb
    rw [hv] at e1; cases e1
    rw [hw] at e2; cases e2
    refine ⟨.tup [xs[i], ys[i]], ?_, good_new g' hT, evo_new g' hT, rep_tup_new g' hT ⟨_, _, rfl, rv, _, _, rfl, rw', rfl⟩⟩
    rw [List.getElem?_map, List.getElem?_eq_getElem (by rw [List.length_zip]; omega), List.getElem_zip]
    rfl
theorem it_zipT {elts : List Expr} {kk : Nat} {p tpos : Pos} (hg : Gl X "zip") (hm : X.mg "zip" = none) (ha : PE X a (tE X.K F ia)) (hb : PE X b (tE X.K F ib)) (hs : starEach [a, b] X.env = (false, eval a X.env) :: starEach [b] X.env := by rfl) (hs2 : starEach [b] X.env = (false, eval b X.env) :: starEach [] X.env := by rfl)
    (hpl : (backTo pos (starEach [b] X.env)).any (·.1) = false := by rfl) : PI X (.Tuple elts kk tpos) (.Call (.Name "zip" p) [a, b] [] pos) (tI X.K F (.zipT ia ib)) :=
  PI.weak (pi_zipM hg hm (a_cons ha (a_cons hb a_nil hs2) hs) hs hpl) fun σ H R ⟨ρ, S, μ, d, S', xs, g, r, q, hi, k⟩ => by
    simp only [ev] at q
    split at q
    · rename_i as S1 ea
      split at q
      · rename_i bs S2 eb
        split at q
        · rename_i hl
          cases q
          cases hi
          refine ⟨ρ, S, μ, [.tup as, .lst bs], S', g, r, by simp only [evs, ea, eb], fun vs μ1 H1 g1 e1 rv => ?_⟩
          obtain ⟨v, ws, rfl, hv, hw⟩ := rv
          obtain ⟨w, rfl, hw2⟩ := reps1 hw
          obtain ⟨p1, vs, rfl, qa, ra⟩ := hv
          obtain ⟨p2, ws, rfl, qb, rb⟩ := hw2
          exact ⟨p1, p2, vs, ws, rfl, qa, SqP.l (qb.elim (fun z => .inl z.1) .inr), k _ μ1 H1 g1 e1 (walk_zipT g1 qa ra qb rb hl)⟩
        · cases q
      · cases q
    · cases q
theorem walk_enum {K : PySem.W.Frag} {S : Sto} {μ : Mu} {H : Hp} {a : Addr} {vs : List V} {xs : List D} (g : Good K S μ H) (q : (Rd H a (.lst vs) ∧ ¬ Live S μ a) ∨ KL K a vs) (r : Reps K S μ H xs vs) :
    Walk K S μ H (Ite K a) (((List.range xs.length).zip xs).map fun p => .tup [.int (p.1 : Nat), p.2]) := fun S' μ' H' g' e' => by
  have qa : SqL K H' a vs := by
    rcases q with q | q
    · exact .inl (rdL e' q.1 q.2).1
    · exact SqP.l (.inr q)
  have ra := r.mono g e'
  have hz : (((List.range xs.length).zip xs).map fun p => D.tup [.int (p.1 : Nat), p.2]).length = xs.length := by rw [List.length_map, List.length_zip, List.length_range]; omega
  refine ⟨fun i hi => ?_, ⟨vs, qa, by rw [hz, r.length]; exact Nat.le_refl _⟩, fun i v H2 hi y => ?_⟩
  · rw [hz] at hi
    obtain ⟨v, hv, _⟩ := r.get (List.getElem?_eq_getElem hi)
    exact ⟨vs, v, qa, hv⟩
  · rw [hz] at hi
    obtain ⟨T, x, rfl, hT, rfl, h1⟩ := y
    obtain ⟨v, hv, rv⟩ := ra.get (List.getElem?_eq_getElem hi)
    have e1 := h1 vs qa
    rw [hv] at e1; cases e1
    refine ⟨.tup [.int i, xs[i]], ?_, good_new g' hT, evo_new g' hT, rep_tup_new g' hT ⟨_, _, rfl, rfl, _, _, rfl, rv, rfl⟩⟩
    rw [List.getElem?_map, List.getElem?_eq_getElem (by rw [List.length_zip, List.length_range]; omega), List.getElem_zip, List.getElem_range]
    rfl
theorem it_enum {elts : List Expr} {kk : Nat} {p tpos : Pos} (hg : Gl X "enumerate") (hm : X.mg "enumerate" = none) (ha : PE X a (tE X.K F ia)) (hs : starEach [a] X.env = [(false, eval a X.env)] := by rfl) :
    PI X (.Tuple elts kk tpos) (.Call (.Name "enumerate" p) [a] [] pos) (tI X.K F (.enum ia)) :=
  PI.weak (pi_enum hg hm (a_cons ha a_nil hs) hs) fun σ H R ⟨ρ, S, μ, d, S', xs, g, r, q, hi, k⟩ => by
    simp only [ev] at q
    split at q
    · rename_i as S1 ea
      cases q
      cases hi
      refine ⟨ρ, S, μ, [.lst as], S', g, r, by simp only [evs, ea], fun vs μ1 H1 g1 e1 rv => ?_⟩
      obtain ⟨v, rfl, hv⟩ := reps1 rv
      obtain ⟨p1, vs, rfl, qa, ra⟩ := hv
      exact ⟨p1, vs, rfl, SqP.l (qa.elim (fun z => .inl z.1) .inr), k _ μ1 H1 g1 e1 (walk_enum g1 qa ra)⟩
    · cases q

theorem wipe_get {σ : L2.St} {j : Nat} : ∀ {vs : List Nat}, (wipe σ vs)[j]? = if j ∈ vs ∧ j < σ.length then some none else σ[j]?
  | [] => by simp [wipe]
  | v :: vs => by
    unfold wipe
    have ih := wipe_get (σ := σ) (j := j) (vs := vs)
    have hl := wipe_length σ vs
    by_cases hj : v = j
    · subst hj
      by_cases lt : v < σ.length
      · rw [List.getElem?_set_self (by rw [hl]; exact lt), if_pos ⟨List.mem_cons_self, lt⟩]
      · rw [List.getElem?_eq_none (by rw [List.length_set, hl]; omega), if_neg fun z => lt z.2, List.getElem?_eq_none (by omega)]
    · rw [List.getElem?_set_ne hj, ih]
      have : (j ∈ v :: vs ∧ j < σ.length) ↔ (j ∈ vs ∧ j < σ.length) := by
        rw [List.mem_cons]
        exact ⟨fun z => ⟨z.1.resolve_left fun q => hj q.symm, z.2⟩, fun z => ⟨.inr z.1, z.2⟩⟩
      simp only [this]
theorem wipe_eq {σ σ' : L2.St} {vs : List Nat} (hl : σ'.length = σ.length) (h : ∀ j, j ∉ vs → σ'[j]? = (wipe σ vs)[j]?) : wipe σ' vs = wipe σ vs := by
  apply List.ext_getElem?
  intro j
  rw [wipe_get, wipe_get, hl]
  by_cases c : j ∈ vs ∧ j < σ.length
  · rw [if_pos c, if_pos c]
  · rw [if_neg c, if_neg c]
    by_cases hj : j ∈ vs
    · have : ¬ j < σ.length := fun z => c ⟨hj, z⟩
      rw [List.getElem?_eq_none (by omega), List.getElem?_eq_none (by omega)]
    · rw [h j hj, wipe_get, if_neg fun z => hj z.1]
theorem rels_wipe {K : PySem.W.Frag} {S : Sto} {μ : Mu} {H : Hp} {ρ : Env} {σ : L2.St} : ∀ {t : Tg}, RelS K S μ H ρ σ → RelS K S μ H (wipeT t ρ) (wipe σ (slotsT t))
  | .n i, r => r.drop i
  | .t is, r => by
    show RelS K S μ H (is.foldr (fun i r => r.set i none) ρ) (wipe σ is)
    induction is with
    | nil => exact r
    | cons i is ih => exact ih.drop i
/-- one turn of a comprehension, by values -/
def StepOk (K : PySem.W.Frag) (ρ : Env) (t : Tg) (tt : TT) (te : TE) (f : D → Sto → Option (Option D × Sto)) : Prop := ∀ d S S' o, f d S = some (o, S') → ∃ ρ', setT t d (wipeT t ρ) = some ρ' ∧
  ∀ μ H σ2 (Y : V → Hp → Prop) (N : Hp → Prop), Good K S μ H → RelS K S μ H ρ' σ2 →
    (∀ μ' H', Good K S' μ' H' → Evo S μ H S' μ' H' → match o with | some y => ∀ v, Rep K S' μ' H' y v → Y v H' | none => N H') → tt σ2 H fun b H3 => if b = true then te σ2 H3 Y else N H3
theorem comp_read {K : PySem.W.Frag} {t : Tg} {tt : TT} {te : TE} {mt : Bool} {f : D → Sto → Option (Option D × Sto)} {σ : L2.St} {H : Hp} {Q : VK} {ρ : Env} {S S1 S2 S' : Sto} {μ : Mu} {x d : D} {xs ys : List D} (g : Good K S μ H) (r : RelS K S μ H ρ σ) (ea : ev F ia ρ S = some (x, S1)) (hx : items x = some xs)
    (hf : StepOk K ρ t tt te f) (er : compRun f xs [] S1 = some (ys, S2)) (em : mkList mt ys S2 = some (d, S')) (k : ContS K S μ H S' d Q) : tLc (tI K F ia) (gT K t) tt te (slotsT t) σ H Q := by
  refine ⟨ρ, S, μ, x, S1, xs, g, r, ea, hx, fun J μ1 H1 g1 e1 W L hD => ?_⟩
  have nD : L ∉ μ1.z := fun z => by
    obtain ⟨ws, q⟩ := g1.zl L z
    rw [hD] at q; cases q
  refine ⟨fun i m H2 => m = xs.length - i ∧ i ≤ xs.length ∧ ∃ (acc : List D) (vs : List V) (S2' : Sto) (μ2 : Mu), H2 L = some (.lst vs) ∧ μ2.z = L :: μ1.z ∧ Good K S2' μ2 H2 ∧ EvoW S1 μ1 H1 S2' μ2 H2 ∧ (∀ a ∈ μ1.z, ∀ o, H1 a = some o → H2 a = some o) ∧
      Reps K S2' μ2 H2 acc vs ∧ acc.length ≤ 100000 ∧ compRun f (xs.drop i) acc S2' = some (ys, S2),
    ⟨xs.length, by simp, Nat.zero_le _, [], [], S1, μ1.hold L, upd_same, rfl, good_begin g1 hD, evoW_begin g1 hD, fun a ha o q => by rw [upd_ne (ne_of_none q hD)]; exact q, rfl, by simp, er⟩, ?_⟩
  rintro i m H2 ⟨rfl, hi, acc, vs, S3, μ3, hL, hz, g3, e3, hh, ra, hal, ec⟩
  have hDz : L ∈ μ3.z := by rw [hz]; exact List.mem_cons_self
  obtain ⟨go, stop, yl⟩ := W S3 μ3 H2 g3 e3
  by_cases hlt : i < xs.length
  · refine .inr ⟨go i hlt, _, fun H' h' => ⟨xs.length - (i + 1), by omega, h'⟩, fun v H4 hy => ?_⟩
    obtain ⟨dd, hdd, g4, e4, r4⟩ := yl i v H4 hlt hy
    have edrop : xs.drop i = dd :: xs.drop (i + 1) := by
      rw [List.drop_eq_getElem_cons hlt]
      rw [List.getElem?_eq_getElem hlt] at hdd
      cases hdd
      rfl
    rw [edrop] at ec
    unfold compRun at ec
    -- the turn
    have base : RelS K S3 μ3 H4 ρ σ := ((r.mono g e1.w).mono g1 e3).mono g3 e4.w
    have turn : ∀ o S5, f dd S3 = some (o, S5) → (match o with | none => compRun f (xs.drop (i + 1)) acc S5 = some (ys, S2) | some y => small (acc.length + 1) = true ∧ compRun f (xs.drop (i + 1)) (acc ++ [y]) S5 = some (ys, S2)) →
        gT K t v (wipe σ (slotsT t)) H4 fun σ2 H5 => wipe σ2 (slotsT t) = wipe σ (slotsT t) ∧ tt σ2 H5 fun b H6 => if b = true then te σ2 H6 fun y H7 => ∃ acc, H7 L = some (.lst acc) ∧ acc.length < sizeLine ∧ (xs.length - (i + 1) = xs.length - (i + 1) ∧ i + 1 ≤ xs.length ∧ ∃ (acc' : List D) (vs : List V) (S2' : Sto) (μ2 : Mu), (upd H7 L (.lst (acc ++ [y]))) L = some (.lst vs) ∧ μ2.z = L :: μ1.z ∧ Good K S2' μ2 (upd H7 L (.lst (acc ++ [y]))) ∧ EvoW S1 μ1 H1 S2' μ2 (upd H7 L (.lst (acc ++ [y]))) ∧ (∀ a ∈ μ1.z, ∀ o, H1 a = some o → (upd H7 L (.lst (acc ++ [y]))) a = some o) ∧
      Reps K S2' μ2 (upd H7 L (.lst (acc ++ [y]))) acc' vs ∧ acc'.length ≤ 100000 ∧ compRun f (xs.drop (i + 1)) acc' S2' = some (ys, S2)) else (xs.length - (i + 1) = xs.length - (i + 1) ∧ i + 1 ≤ xs.length ∧ ∃ (acc : List D) (vs : List V) (S2' : Sto) (μ2 : Mu), H6 L = some (.lst vs) ∧ μ2.z = L :: μ1.z ∧ Good K S2' μ2 H6 ∧ EvoW S1 μ1 H1 S2' μ2 H6 ∧ (∀ a ∈ μ1.z, ∀ o, H1 a = some o → H6 a = some o) ∧
      Reps K S2' μ2 H6 acc vs ∧ acc.length ≤ 100000 ∧ compRun f (xs.drop (i + 1)) acc S2' = some (ys, S2)) := by
      intro o S5 ef hrest
      obtain ⟨ρ', st, fin⟩ := hf dd S3 S5 o ef
      refine ⟨dd, _, ρ', S3, μ3, g4, rels_wipe base, r4, st, fun σ2 r2 l2 n2 => ⟨wipe_eq (by rw [l2, wipe_length]) n2, ?_⟩⟩
      refine fin μ3 H4 σ2 _ _ g4 r2 fun μ5 H5 g5 e5 => ?_
      have e45 := e4.trans e5
      have hz5 : μ5.z = L :: μ1.z := by rw [e45.z, hz]
      have hL5 : H5 L = some (.lst vs) := e45.hold L _ hDz hL
      have hh5 : ∀ a ∈ μ1.z, ∀ o, H1 a = some o → H5 a = some o := fun a ha o q => e45.hold a _ (by rw [hz]; exact List.mem_cons_of_mem _ ha) (hh a ha o q)
      cases o with
      | none => exact ⟨rfl, hlt, acc, vs, S5, μ5, hL5, hz5, g5, e3.trans e45.w, hh5, ra.mono g3 e45.w, hal, hrest⟩
      | some y =>
        intro w rw'
        have hD5 : L ∈ μ5.z := by rw [hz5]; exact List.mem_cons_self
        have eg := evoW_grow (S := S5) (H := H5) (o := .lst (vs ++ [w])) hD5
        have rv := ra.mono g3 e45.w
        refine ⟨vs, hL5, by rw [← rv.length, sizeLine_eq]; omega, rfl, hlt, acc ++ [y], vs ++ [w], S5, μ5, upd_same, hz5, good_grow g5 hD5, (e3.trans e45.w).trans eg, fun a ha o q => ?_, (rv.mono g5 eg).append ⟨w, [], rfl, rw'.mono g5 eg, rfl⟩, ?_, hrest.2⟩
        · rw [upd_ne fun z => nD (by rw [← z]; exact ha)]
          exact hh5 a ha o q
        · have := small_le hrest.1
          rw [List.length_append]
          exact this
    split at ec
    · cases ec
    · rename_i S5 ef
      exact turn none S5 ef ec
    · rename_i y S5 ef
      split at ec
      · rename_i hsm
        exact turn (some y) S5 ef ⟨hsm, ec⟩
      · cases ec
  · have hi' : i = xs.length := by omega
    subst hi'
    refine .inl ⟨stop, ?_⟩
    rw [List.drop_length] at ec
    unfold compRun at ec
    cases ec
    obtain ⟨ps, zz⟩ := μ3
    have hz' : zz = L :: μ1.z := hz
    subst hz'
    have hold2 : ∀ a o, a ∈ μ.z → H a = some o → H2 a = some o := fun a o ha q => hh a (by rw [e1.z]; exact ha) o (e1.hold a o ha q)
    unfold mkList at em
    cases mt with
    | false =>
      rw [if_neg Bool.false_ne_true] at em
      cases em
      have ge : Good K S2 ⟨ps, μ1.z⟩ H2 := good_end (p := L) g3
      have ee : EvoW S2 ⟨ps, L :: μ1.z⟩ H2 S2 ⟨ps, μ1.z⟩ H2 := evoW_end (μ := ⟨ps, μ1.z⟩) (p := L)
      refine k (.ref L) ⟨ps, μ1.z⟩ H2 ge ⟨(e1.w.trans e3).trans ee, e1.z, hold2⟩ ⟨L, vs, rfl, .inl ⟨.inl hL, fun l => ?_⟩, ra.mono g3 ee⟩
      rcases l with l | l
      · exact g3.zn L List.mem_cons_self l
      · exact nD l
    | true =>
      rw [if_pos rfl] at em
      cases em
      obtain ⟨ge, ee⟩ := good_place (μ := ⟨ps, μ1.z⟩) (p := L) g3 nD hL ra
      exact k (.ref L) _ H2 ge ⟨(e1.w.trans e3).trans ee, e1.z, hold2⟩ ⟨L, rfl, get_last (l := ps) (x := L) g3.len⟩

/-- the comprehension's readings -/
theorem step_plain {K : PySem.W.Frag} {ρ : Env} {t : Tg} : StepOk K ρ t tYes (tE K F ie) (fun d S => match setT t d (wipeT t ρ) with
    | none => none
    | some ρ' => match ev F ie ρ' S with
      | none => none
      | some (y, S') => some (some y, S')) := by
  intro d S S' o h
  simp only at h
  split at h
  · cases h
  · rename_i ρ' st
    split at h
    · cases h
    · rename_i y S1 ee
      cases h
      exact ⟨ρ', st, fun μ H σ2 Y N g r k => by
        show (if true = true then tE K F ie σ2 H Y else N H)
        rw [if_pos rfl]
        exact ⟨ρ', S, μ, y, _, g, r, ee, fun v μ' H' g' e' rv => k μ' H' g' e' v rv⟩⟩
theorem step_if {K : PySem.W.Frag} {ρ : Env} {t : Tg} : StepOk K ρ t (tT K F ic) (tE K F ie) (fun d S => match setT t d (wipeT t ρ) with
    | none => none
    | some ρ' => match ev F ic ρ' S with
      | some (.bl true, S1) => (match ev F ie ρ' S1 with
        | none => none
        | some (y, S') => some (some y, S'))
      | some (.bl false, S1) => some (none, S1)
      | _ => none) := by
  intro d S S' o h
  simp only at h
  split at h
  · cases h
  · rename_i ρ' st
    split at h
    · rename_i S1 ec
      split at h
      · cases h
      · rename_i y S2 ee
        cases h
        exact ⟨ρ', st, fun μ H σ2 Y N g r k => ⟨ρ', S, μ, true, S1, g, r, ec, fun μ1 H1 g1 e1 => by
          show (if true = true then _ else _)
          rw [if_pos rfl]
          exact ⟨ρ', S1, μ1, y, _, g1, r.mono g e1.w, ee, fun v μ' H' g' e' rv => k μ' H' g' (e1.trans e') v rv⟩⟩⟩
    · rename_i S1 ec
      cases h
      exact ⟨ρ', st, fun μ H σ2 Y N g r k => ⟨ρ', S, μ, false, _, g, r, ec, fun μ1 H1 g1 e1 => by
        show (if false = true then _ else _)
        rw [if_neg Bool.false_ne_true]
        exact k μ1 H1 g1 e1⟩⟩
    · cases h
theorem lc_plain {K : PySem.W.Frag} {mt : Bool} {t : Tg} {σ : L2.St} {H : Hp} {Q : VK} (h : tE K F (.comp mt t ia ie) σ H Q) : tLc (tI K F ia) (gT K t) tYes (tE K F ie) (slotsT t) σ H Q := by
  obtain ⟨ρ, S, μ, d, S', g, r, q, k⟩ := h
  simp only [ev] at q
  split at q
  · cases q
  · rename_i x S1 ea
    split at q
    · cases q
    · rename_i xs hx
      split at q
      · cases q
      · rename_i ys S2 er
        exact comp_read g r ea hx step_plain er q k
theorem lc_if {K : PySem.W.Frag} {mt : Bool} {t : Tg} {σ : L2.St} {H : Hp} {Q : VK} (h : tE K F (.compI mt t ia ic ie) σ H Q) : tLc (tI K F ia) (gT K t) (tT K F ic) (tE K F ie) (slotsT t) σ H Q := by
  obtain ⟨ρ, S, μ, d, S', g, r, q, k⟩ := h
  simp only [ev] at q
  split at q
  · cases q
  · rename_i x S1 ea
    split at q
    · cases q
    · rename_i xs hx
      split at q
      · cases q
      · rename_i ys S2 er
        exact comp_read g r ea hx step_if er q k

theorem wipe_app (σ : L2.St) (b : List Nat) : ∀ a : List Nat, wipe σ (a ++ b) = wipe (wipe σ b) a
  | [] => rfl
  | x :: a => by
    show (wipe σ (a ++ b)).set x none = (wipe (wipe σ b) a).set x none
    rw [wipe_app σ b a]
/-- a turn's inner items and what is done with each -/
def g2F (F : CF) (t t2 : Tg) (ib ie : E) (ρ : Env) (d : D) (S : Sto) : Option (List D × (D → Sto → Option (Option D × Sto)) × Sto) := match setT t d (wipeT t (wipeT t2 ρ)) with
  | none => none
  | some ρ' => match ev F ib ρ' S with
    | none => none
    | some (y, S') => match items y with
      | none => none
      | some ys => some (ys, (fun e S => match setT t2 e (wipeT t2 ρ') with
        | none => none
        | some ρ2 => match ev F ie ρ2 S with
          | none => none
          | some (z, S') => some (some z, S')), S')
/-- the list at L that is being made -/
def Mk2 (K : PySem.W.Frag) (S1 : Sto) (μ1 : Mu) (H1 : Hp) (L : Addr) (acc : List D) (vs : List V) (S2 : Sto) (μ2 : Mu) (H2 : Hp) : Prop :=
  H2 L = some (.lst vs) ∧ μ2.z = L :: μ1.z ∧ Good K S2 μ2 H2 ∧ EvoW S1 μ1 H1 S2 μ2 H2 ∧ (∀ a ∈ μ1.z, ∀ o, H1 a = some o → H2 a = some o) ∧ Reps K S2 μ2 H2 acc vs ∧ acc.length ≤ 100000
theorem Mk2.step {K : PySem.W.Frag} {S1 S2 S3 : Sto} {μ1 μ2 μ3 : Mu} {H1 H2 H3 : Hp} {L : Addr} {acc : List D} {vs : List V} (m : Mk2 K S1 μ1 H1 L acc vs S2 μ2 H2) (g : Good K S3 μ3 H3) (e : Evo S2 μ2 H2 S3 μ3 H3) : Mk2 K S1 μ1 H1 L acc vs S3 μ3 H3 := by
  obtain ⟨hL, hz, g2, e2, hh, ra, hal⟩ := m
  exact ⟨e.hold L _ (by rw [hz]; exact List.mem_cons_self) hL, by rw [e.z, hz], g, e2.trans e.w, fun a ha o q => e.hold a _ (by rw [hz]; exact List.mem_cons_of_mem _ ha) (hh a ha o q), ra.mono g2 e.w, hal⟩
theorem Mk2.grow {K : PySem.W.Frag} {S1 S2 : Sto} {μ1 μ2 : Mu} {H1 H2 : Hp} {L : Addr} {acc : List D} {vs : List V} {y : D} {w : V} (nD : L ∉ μ1.z) (m : Mk2 K S1 μ1 H1 L acc vs S2 μ2 H2) (r : Rep K S2 μ2 H2 y w) (sm : small (acc.length + 1) = true) :
    Mk2 K S1 μ1 H1 L (acc ++ [y]) (vs ++ [w]) S2 μ2 (upd H2 L (.lst (vs ++ [w]))) := by
  obtain ⟨hL, hz, g2, e2, hh, ra, hal⟩ := m
  have hD5 : L ∈ μ2.z := by rw [hz]; exact List.mem_cons_self
  have eg := evoW_grow (S := S2) (H := H2) (o := .lst (vs ++ [w])) hD5
  refine ⟨upd_same, hz, good_grow g2 hD5, e2.trans eg, fun a ha o q => ?_, (ra.mono g2 eg).append ⟨w, [], rfl, r.mono g2 eg, rfl⟩, ?_⟩
  · rw [upd_ne fun z => nD (by rw [← z]; exact ha)]
    exact hh a ha o q
  · have := small_le sm
    rw [List.length_append]
    exact this
theorem yes_turn {σ : L2.St} {H : Hp} {A B : Hp → Prop} (h : A H) : tYes σ H (fun b H => if b = true then A H else B H) := by
  show (if true = true then A H else B H)
  rw [if_pos rfl]
  exact h
theorem comp2_read {K : PySem.W.Frag} {t t2 : Tg} {mt : Bool} {σ : L2.St} {H : Hp} {Q : VK} {ρ : Env} {S S1 S2 S' : Sto} {μ : Mu} {x d : D} {xs ys : List D} (g : Good K S μ H) (r : RelS K S μ H ρ σ) (ea : ev F ia ρ S = some (x, S1)) (hx : items x = some xs)
    (er : comp2Run (g2F F t t2 ib ie ρ) xs [] S1 = some (ys, S2)) (em : mkList mt ys S2 = some (d, S')) (k : ContS K S μ H S' d Q) : tLc2 (tI K F ia) (gT K t) tYes (tI K F ib) (gT K t2) tYes (tE K F ie) (slotsT t ++ slotsT t2) (slotsT t2) σ H Q := by
  refine ⟨ρ, S, μ, x, S1, xs, g, r, ea, hx, fun J μ1 H1 g1 e1 W L hD => ?_⟩
  have nD : L ∉ μ1.z := fun z => by
    obtain ⟨ws, q⟩ := g1.zl L z
    rw [hD] at q; cases q
  refine ⟨fun i m H2 => m = xs.length - i ∧ i ≤ xs.length ∧ ∃ (acc : List D) (vs : List V) (S2' : Sto) (μ2 : Mu), Mk2 K S1 μ1 H1 L acc vs S2' μ2 H2 ∧ comp2Run (g2F F t t2 ib ie ρ) (xs.drop i) acc S2' = some (ys, S2),
    ⟨xs.length, by simp, Nat.zero_le _, [], [], S1, μ1.hold L, ⟨upd_same, rfl, good_begin g1 hD, evoW_begin g1 hD, fun a ha o q => by rw [upd_ne (ne_of_none q hD)]; exact q, rfl, by simp⟩, er⟩, ?_⟩
  rintro i m H2 ⟨rfl, hi, acc, vs, S3, μ3, M3, ec⟩
  obtain ⟨hL, hz, g3, e3, hh, ra, hal⟩ := id M3
  obtain ⟨go, stop, yl⟩ := W S3 μ3 H2 g3 e3
  by_cases hlt : i < xs.length
  · refine .inr ⟨go i hlt, fun H' => (xs.length - (i + 1) = xs.length - (i + 1) ∧ i + 1 ≤ xs.length ∧ ∃ (acc : List D) (vs : List V) (S2' : Sto) (μ2 : Mu), Mk2 K S1 μ1 H1 L acc vs S2' μ2 H' ∧ comp2Run (g2F F t t2 ib ie ρ) (xs.drop (i + 1)) acc S2' = some (ys, S2)), fun H' h' => ⟨xs.length - (i + 1), by omega, h'⟩, fun v H4 hy => ?_⟩
    obtain ⟨dd, hdd, g4, e4, r4⟩ := yl i v H4 hlt hy
    have edrop : xs.drop i = dd :: xs.drop (i + 1) := by
      rw [List.drop_eq_getElem_cons hlt]
      rw [List.getElem?_eq_getElem hlt] at hdd
      cases hdd
      rfl
    rw [edrop] at ec
    unfold comp2Run at ec
    have base : RelS K S3 μ3 H4 ρ σ := ((r.mono g e1.w).mono g1 e3).mono g3 e4.w
    have M4 := M3.step g4 e4
    split at ec
    · cases ec
    · rename_i yl2 f S5 eg
      split at ec
      · cases ec
      · rename_i acc2 S7 eI
        unfold g2F at eg
        split at eg
        · cases eg
        · rename_i ρ' st
          split at eg
          · cases eg
          · rename_i y S6 eb
            split at eg
            · cases eg
            · rename_i yl3 hy3
              cases eg
              have rw0 : RelS K S3 μ3 H4 (wipeT t (wipeT t2 ρ)) (wipe σ (slotsT t ++ slotsT t2)) := by
                rw [wipe_app]
                exact rels_wipe (rels_wipe base)
              refine ⟨dd, _, ρ', S3, μ3, g4, rw0, r4, st, fun σ2 r2 l2 n2 => ⟨wipe_eq (by rw [l2, wipe_length]) fun j hj => n2 j fun z => hj (List.mem_append_left _ z), ?_⟩⟩
              refine yes_turn ?_
              refine ⟨ρ', S3, μ3, y, S5, yl2, g4, r2, eb, hy3, fun J1 μ5 H5 g5 e5 W1 => ?_⟩
              have M5 := M4.step g5 e5
              refine ⟨fun j k H6 => k = yl2.length - j ∧ j ≤ yl2.length ∧ ∃ (acc3 : List D) (vs3 : List V) (S6 : Sto) (μ6 : Mu), Mk2 K S1 μ1 H1 L acc3 vs3 S6 μ6 H6 ∧ EvoW S5 μ5 H5 S6 μ6 H6 ∧ compRun (fun e S => match setT t2 e (wipeT t2 ρ') with
        | none => none
        | some ρ2 => match ev F ie ρ2 S with
          | none => none
          | some (z, S') => some (some z, S')) (yl2.drop j) acc3 S6 = some (acc2, S7),
                ⟨yl2.length, by simp, Nat.zero_le _, acc, vs, S5, μ5, M5, EvoW.refl _ _ _, eI⟩, ?_⟩
              rintro j k6 H6 ⟨rfl, hj, acc3, vs3, S6, μ6, M6, e6, ec6⟩
              obtain ⟨go1, stop1, yl1⟩ := W1 S6 μ6 H6 M6.2.2.1 e6
              by_cases hlt1 : j < yl2.length
              · refine .inr ⟨go1 j hlt1, fun H' => (yl2.length - (j + 1) = yl2.length - (j + 1) ∧ j + 1 ≤ yl2.length ∧ ∃ (acc3 : List D) (vs3 : List V) (S6 : Sto) (μ6 : Mu), Mk2 K S1 μ1 H1 L acc3 vs3 S6 μ6 H' ∧ EvoW S5 μ5 H5 S6 μ6 H' ∧ compRun (fun e S => match setT t2 e (wipeT t2 ρ') with
        | none => none
        | some ρ2 => match ev F ie ρ2 S with
          | none => none
          | some (z, S') => some (some z, S')) (yl2.drop (j + 1)) acc3 S6 = some (acc2, S7)), fun H' h' => ⟨yl2.length - (j + 1), by omega, h'⟩, fun v8 H8 hy8 => ?_⟩
                obtain ⟨dd2, hdd2, g8, e8, r8⟩ := yl1 j v8 H8 hlt1 hy8
                have edrop1 : yl2.drop j = dd2 :: yl2.drop (j + 1) := by
                  rw [List.drop_eq_getElem_cons hlt1]
                  rw [List.getElem?_eq_getElem hlt1] at hdd2
                  cases hdd2
                  rfl
                rw [edrop1] at ec6
                unfold compRun at ec6
                have base2 : RelS K S6 μ6 H8 ρ' σ2 := ((r2.mono g4 e5.w).mono g5 e6).mono M6.2.2.1 e8.w
                split at ec6
                · cases ec6
                · rename_i S9 ef
                  split at ef
                  · cases ef
                  · split at ef <;> cases ef
                · rename_i z S9 ef
                  split at ec6
                  · rename_i hsm
                    split at ef
                    · cases ef
                    · rename_i ρ2 st2
                      split at ef
                      · cases ef
                      · rename_i z2 S10 ee
                        cases ef
                        refine ⟨dd2, _, ρ2, S6, μ6, g8, rels_wipe base2, r8, st2, fun σ3 r3 l3 n3 => ⟨wipe_eq (by rw [l3, wipe_length]) n3, ?_⟩⟩
                        refine yes_turn ?_
                        refine ⟨ρ2, S6, μ6, z, S9, g8, r3, ee, fun w9 μ9 H9 g9 e9 rw9 => ?_⟩
                        have M9 := (M6.step g8 e8).step g9 e9
                        refine ⟨vs3, M9.1, by rw [← M9.2.2.2.2.2.1.length, sizeLine_eq]; have := M9.2.2.2.2.2.2; omega, rfl, hlt1, acc3 ++ [z], vs3 ++ [w9], S9, μ9, M9.grow nD rw9 hsm, ?_, ec6⟩
                        have hD9 : L ∈ μ9.z := by rw [M9.2.1]; exact List.mem_cons_self
                        exact ((e6.trans e8.w).trans e9.w).trans (evoW_grow hD9)
                  · cases ec6
              · have hj' : j = yl2.length := by omega
                subst hj'
                rw [List.drop_length] at ec6
                unfold compRun at ec6
                cases ec6
                exact .inl ⟨stop1, rfl, hlt, acc2, vs3, S7, μ6, M6, ec⟩
  · have hi' : i = xs.length := by omega
    subst hi'
    refine .inl ⟨stop, ?_⟩
    rw [List.drop_length] at ec
    unfold comp2Run at ec
    cases ec
    obtain ⟨ps, zz⟩ := μ3
    have hz' : zz = L :: μ1.z := hz
    subst hz'
    have hold2 : ∀ a o, a ∈ μ.z → H a = some o → H2 a = some o := fun a o ha q => hh a (by rw [e1.z]; exact ha) o (e1.hold a o ha q)
    unfold mkList at em
    cases mt with
    | false =>
      rw [if_neg Bool.false_ne_true] at em
      cases em
      have ge : Good K S2 ⟨ps, μ1.z⟩ H2 := good_end (p := L) g3
      have ee : EvoW S2 ⟨ps, L :: μ1.z⟩ H2 S2 ⟨ps, μ1.z⟩ H2 := evoW_end (μ := ⟨ps, μ1.z⟩) (p := L)
      refine k (.ref L) ⟨ps, μ1.z⟩ H2 ge ⟨(e1.w.trans e3).trans ee, e1.z, hold2⟩ ⟨L, vs, rfl, .inl ⟨.inl hL, fun l => ?_⟩, ra.mono g3 ee⟩
      rcases l with l | l
      · exact g3.zn L List.mem_cons_self l
      · exact nD l
    | true =>
      rw [if_pos rfl] at em
      cases em
      obtain ⟨ge, ee⟩ := good_place (μ := ⟨ps, μ1.z⟩) (p := L) g3 nD hL ra
      exact k (.ref L) _ H2 ge ⟨(e1.w.trans e3).trans ee, e1.z, hold2⟩ ⟨L, rfl, get_last (l := ps) (x := L) g3.len⟩
theorem lc_two {K : PySem.W.Frag} {mt : Bool} {t t2 : Tg} {σ : L2.St} {H : Hp} {Q : VK} (h : tE K F (.comp2 mt t ia t2 ib ie) σ H Q) : tLc2 (tI K F ia) (gT K t) tYes (tI K F ib) (gT K t2) tYes (tE K F ie) (slotsT t ++ slotsT t2) (slotsT t2) σ H Q := by
  obtain ⟨ρ, S, μ, d, S', g, r, q, k⟩ := h
  simp only [ev] at q
  split at q
  · cases q
  · rename_i x S1 ea
    split at q
    · cases q
    · rename_i xs hx
      split at q
      · cases q
      · rename_i ys S2 er
        exact comp2_read g r ea hx er q k
/-- the block of a comprehension -/
abbrev Blk (X : Cx) (scope : Scope) (s : Shared) (H : Hp) (C : Addr) (cl : List (Str × Addr)) (fp : List Addr) : Cx := X.blk s H scope (compEnvC scope cl C X.env) fp
theorem cok_blk {scope : Scope} {s : Shared} {H : Hp} {C : Addr} {cl : List (Str × Addr)} {fp : List Addr} (ok : Cok X) : Cok (Blk X scope s H C cl fp) := ⟨ok.nd, ok.calm, ok.gd, ok.un⟩
theorem call_blk {fi ar : Nat} {x : Str} {scope : Scope} {s : Shared} {H : Hp} {C : Addr} {cl : List (Str × Addr)} {fp : List Addr} (h : CallOk X F fi ar x) : CallOk (Blk X scope s H C cl fp) F fi ar x := ⟨h.ar_, h.ex⟩
theorem callK_blk {fi ar n : Nat} {x : Str} {ks : List Str} {pm : List Nat} {scope : Scope} {s : Shared} {H : Hp} {C : Addr} {cl : List (Str × Addr)} {fp : List Addr} (h : CallKOk X F fi ar x n ks pm) : CallKOk (Blk X scope s H C cl fp) F fi ar x n ks pm := ⟨h.ar_, h.ex⟩
theorem i_comp {mt : Bool} {t : Tg} {elt tg iter : Expr} {scope : Scope} {own : List (Str × Nat)} (ok : Cok X) (hs : own.map (·.2) = slotsT t) (hi : PI X tg iter (tI X.K F ia)) (bk : BlkOk X.N X.env.scope scope own)
    (hg : ∀ s H C cl fp, PG (Blk X scope s H C cl fp) tg (gT X.K t)) (he : ∀ s H C cl fp, PE (Blk X scope s H C cl fp) elt (tE X.K F ie)) (hf : ∀ x, foldedSetIterable iter X.env x = pure x := by intro _; rfl) :
    PE X (.ListComp elt [⟨tg, iter, [], 0⟩] scope pos) (tE X.K F (.comp mt t ia ie)) :=
  PE.weak (pe_lc ok.calm ok.nd hi bk hg (fun _ _ _ _ _ => pts_nil) he hf) fun σ H Q h => by rw [hs]; exact lc_plain h
theorem i_compI {mt : Bool} {t : Tg} {elt tg iter c : Expr} {scope : Scope} {own : List (Str × Nat)} (ok : Cok X) (hs : own.map (·.2) = slotsT t) (hi : PI X tg iter (tI X.K F ia)) (bk : BlkOk X.N X.env.scope scope own)
    (hg : ∀ s H C cl fp, PG (Blk X scope s H C cl fp) tg (gT X.K t)) (hc : ∀ s H C cl fp, PT (Blk X scope s H C cl fp) c (tT X.K F ic)) (he : ∀ s H C cl fp, PE (Blk X scope s H C cl fp) elt (tE X.K F ie)) (hf : ∀ x, foldedSetIterable iter X.env x = pure x := by intro _; rfl) :
    PE X (.ListComp elt [⟨tg, iter, [c], 0⟩] scope pos) (tE X.K F (.compI mt t ia ic ie)) :=
  PE.weak (pe_lc ok.calm ok.nd hi bk hg (fun s H C cl fp => pts_one (hc s H C cl fp)) he hf) fun σ H Q h => by rw [hs]; exact lc_if h
theorem i_comp2 {mt : Bool} {t t2 : Tg} {elt tg iter tg2 iter2 : Expr} {scope : Scope} {own : List (Str × Nat)} (ok : Cok X) (hs : own.map (·.2) = slotsT t ++ slotsT t2) (hi : PI X tg iter (tI X.K F ia)) (bk : BlkOk X.N X.env.scope scope own)
    (hg : ∀ s H C cl fp, PG (Blk X scope s H C cl fp) tg (gT X.K t)) (hi2 : ∀ s H C cl fp, PI (Blk X scope s H C cl fp) tg2 iter2 (tI X.K F ib)) (hg2 : ∀ s H C cl fp, PG (Blk X scope s H C cl fp) tg2 (gT X.K t2)) (he : ∀ s H C cl fp, PE (Blk X scope s H C cl fp) elt (tE X.K F ie)) (hf : ∀ x, foldedSetIterable iter X.env x = pure x := by intro _; rfl) (hf2 : ∀ env x, foldedSetIterable iter2 env x = pure x := by intro _ _; rfl) :
    PE X (.ListComp elt [⟨tg, iter, [], 0⟩, ⟨tg2, iter2, [], 0⟩] scope pos) (tE X.K F (.comp2 mt t ia t2 ib ie)) :=
  PE.weak (pe_lc2 ok.calm ok.nd hi bk (vs1 := slotsT t2) (by rw [hs]; exact fun i hi => List.mem_append_right _ hi) hg (fun _ _ _ _ _ => pts_nil) hi2 hg2 (fun _ _ _ _ _ => pts_nil) he hf hf2) fun σ H Q h => by rw [hs]; exact lc_two h
end

section
variable {X : Cx} {F : CF} {w : Nat} {a b c e tg : Expr} {es : List Expr} {ia ib ic ie io : E} {ies : Es} {pos : Pos} {st : Stmt} {sts : List Stmt} {ist : Iv.St} {iss its : Ss}
/-- what holds behind a statement -/
def OutOk (K : PySem.W.Frag) (S : Sto) (μ : Mu) (H : Hp) (D : Ends) (σ : L2.St) (o : Out) (S' : Sto) : Prop := match o with
  | .nx ρ' => ∀ σ' μ' H', Good K S' μ' H' → Evo S μ H S' μ' H' → RelS K S' μ' H' ρ' σ' → D.nx σ' H'
  | .rt d => ∀ v μ' H', Good K S' μ' H' → Evo S μ H S' μ' H' → Rep K S' μ' H' d v → D.rt v H'
  | .bk ρ' => ∀ σ' μ' H', Good K S' μ' H' → Evo S μ H S' μ' H' → RelS K S' μ' H' ρ' σ' → D.bk σ' H'
  | .ct ρ' => ∀ σ' μ' H', Good K S' μ' H' → Evo S μ H S' μ' H' → RelS K S' μ' H' ρ' σ' → D.ct σ' H'
theorem OutOk.trans {K : PySem.W.Frag} {S S1 S' : Sto} {μ μ1 : Mu} {H H1 : Hp} {D : Ends} {σ : L2.St} {o : Out} (e : Evo S μ H S1 μ1 H1) (h : OutOk K S μ H D σ o S') : OutOk K S1 μ1 H1 D σ o S' := by
  cases o with
  | nx ρ => exact fun σ' μ' H' g e' r => h σ' μ' H' g (e.trans e') r
  | rt d => exact fun v μ' H' g e' r => h v μ' H' g (e.trans e') r
  | bk ρ => exact fun σ' μ' H' g e' r => h σ' μ' H' g (e.trans e') r
  | ct ρ => exact fun σ' μ' H' g e' r => h σ' μ' H' g (e.trans e') r
def tS (K : PySem.W.Frag) (F : CF) (w : Nat) (st : Iv.St) : TS := fun D σ H => ∃ (ρ : Env) (S : Sto) (μ : Mu) (o : Out) (S' : Sto), Good K S μ H ∧ RelS K S μ H ρ σ ∧ ex F w st ρ S = some (o, S') ∧ OutOk K S μ H D σ o S'
def tSs (K : PySem.W.Frag) (F : CF) (w : Nat) (ss : Ss) : TS := fun D σ H => ∃ (ρ : Env) (S : Sto) (μ : Mu) (o : Out) (S' : Sto), Good K S μ H ∧ RelS K S μ H ρ σ ∧ exs F w ss ρ S = some (o, S') ∧ OutOk K S μ H D σ o S'
theorem PS.weak {st : Stmt} {t t' : TS} (h : PS X st t) (k : ∀ D σ H, t' D σ H → t D σ H) : PS X st t' := ⟨fun pins s σ H D I q => h.run pins s σ H D I (k D σ H q)⟩
theorem PSs.weak {st : List Stmt} {t t' : TS} (h : PSs X st t) (k : ∀ D σ H, t' D σ H → t D σ H) : PSs X st t' := ⟨fun pins s σ H D I q => h.run pins s σ H D I (k D σ H q)⟩
theorem ss_nil : PSs X [] (tSs X.K F w .nil) := PSs.weak pss_nil fun D σ H ⟨ρ, S, μ, o, S', g, r, q, k⟩ => by
  simp only [exs] at q
  cases q
  exact k σ μ H g (Evo.refl _ _ _) r
theorem ss_cons (h1 : PS X st (tS X.K F w ist)) (h2 : PSs X sts (tSs X.K F w iss)) : PSs X (st :: sts) (tSs X.K F w (.cons ist iss)) := PSs.weak (pss_cons h1 h2) fun D σ H ⟨ρ, S, μ, o, S', g, r, q, k⟩ => by
  simp only [exs] at q
  split at q
  · cases q
  · rename_i ρ1 S1 e1
    exact ⟨ρ, S, μ, .nx ρ1, S1, g, r, e1, fun σ1 μ1 H1 g1 ev1 r1 => ⟨ρ1, S1, μ1, o, S', g1, r1, q, by
      have z := k.trans ev1
      cases o <;> exact z⟩⟩
  · rename_i oo hne e1
    obtain ⟨o1, S1⟩ := oo
    cases q
    refine ⟨ρ, S, μ, o, S', g, r, e1, ?_⟩
    cases o with
    | nx ρ1 => exact absurd rfl (hne ρ1 S')
    | rt d => exact k
    | bk ρ1 => exact k
    | ct ρ1 => exact k
/-- a list that will not change any more is seen as a value -/
theorem ss_frz {i : Nat} (h : PSs X sts (tSs X.K F w iss)) : PSs X sts (tSs X.K F w (.cons (.frz i) iss)) := PSs.weak h fun D σ H ⟨ρ, S, μ, o, S', g, r, q, k⟩ => by
  simp only [exs, ex] at q
  cases h1 : ρ[i]? with
  | none => simp [h1] at q
  | some od =>
    cases od with
    | none => simp [h1] at q
    | some d =>
      cases d with
      | ref j =>
        cases h2 : S[j]? with
        | none => simp [h1, h2] at q
        | some oxs =>
          cases oxs with
          | none => simp [h1, h2] at q
          | some xs =>
            simp only [h1, h2] at q
            obtain ⟨v, hv, rv⟩ := r.at_ i _ h1
            have e : Evo S μ H (S.set j none) μ H := evo_drop
            have r2 : RelS X.K (S.set j none) μ H ρ σ := r.mono g e.w
            have hs : σ.set i (some v) = σ := by
              apply List.ext_getElem?
              intro m
              by_cases hm : i = m
              · subst hm
                rw [List.getElem?_set_self (List.getElem?_eq_some_iff.mp hv).1, hv]
              · rw [List.getElem?_set_ne hm]
            have r3 := r2.set i (rep_drop g h2 rv)
            rw [hs] at r3
            exact ⟨_, _, μ, o, S', good_drop g, r3, q, by
              have z := k.trans e
              cases o <;> exact z⟩
      | _ => simp [h1] at q
theorem s_pass : PS X (.Pass pos) (tS X.K F w .pass) := PS.weak ps_pass fun D σ H ⟨ρ, S, μ, o, S', g, r, q, k⟩ => by
  simp only [ex] at q
  cases q
  exact k σ μ H g (Evo.refl _ _ _) r
theorem s_brk : PS X (.Break pos) (tS X.K F w .brk) := PS.weak ps_break fun D σ H ⟨ρ, S, μ, o, S', g, r, q, k⟩ => by
  simp only [ex] at q
  cases q
  exact k σ μ H g (Evo.refl _ _ _) r
theorem s_cnt : PS X (.Continue pos) (tS X.K F w .cnt) := PS.weak ps_continue fun D σ H ⟨ρ, S, μ, o, S', g, r, q, k⟩ => by
  simp only [ex] at q
  cases q
  exact k σ μ H g (Evo.refl _ _ _) r
theorem s_never : PS X st (tS X.K F w .never) := PS.weak ps_never fun D σ H ⟨ρ, S, μ, o, S', g, r, q, k⟩ => by
  simp only [ex] at q
  cases q
theorem s_ex (he : PE X e (tE X.K F ie)) (hs : swapsWith e none pos.line X.env = pure false := by rfl) : PS X (.Expr e pos) (tS X.K F w (.ex ie)) := PS.weak (ps_expr he hs) fun D σ H ⟨ρ, S, μ, o, S', g, r, q, k⟩ => by
  simp only [ex] at q
  split at q
  · cases q
  · rename_i x S1 e1
    cases q
    exact ⟨ρ, S, μ, x, _, g, r, e1, fun v μ1 H1 g1 ev1 rv => k σ μ1 H1 g1 ev1 (r.mono g ev1.w)⟩
theorem s_ret (he : PE X e (tE X.K F ie)) : PS X (.Return (some e) pos) (tS X.K F w (.ret ie)) := PS.weak (ps_ret he) fun D σ H ⟨ρ, S, μ, o, S', g, r, q, k⟩ => by
  simp only [ex] at q
  split at q
  · cases q
  · rename_i x S1 e1
    cases q
    exact ⟨ρ, S, μ, x, _, g, r, e1, fun v μ1 H1 g1 ev1 rv => k v μ1 H1 g1 ev1 rv⟩
theorem s_if (hc : PT X c (tT X.K F ic)) (ha : PSs X sts (tSs X.K F w iss)) {sts2 : List Stmt} (hb : PSs X sts2 (tSs X.K F w its)) : PS X (.If c sts sts2 pos) (tS X.K F w (.ifs ic iss its)) := PS.weak (ps_if hc ha hb) fun D σ H ⟨ρ, S, μ, o, S', g, r, q, k⟩ => by
  simp only [ex] at q
  split at q
  · rename_i S1 e1
    exact ⟨ρ, S, μ, true, S1, g, r, e1, fun μ1 H1 g1 ev1 => by
      show (if true = true then _ else _)
      rw [if_pos rfl]
      exact ⟨ρ, S1, μ1, o, S', g1, r.mono g ev1.w, q, by have z := k.trans ev1; cases o <;> exact z⟩⟩
  · rename_i S1 e1
    exact ⟨ρ, S, μ, false, S1, g, r, e1, fun μ1 H1 g1 ev1 => by
      show (if false = true then _ else _)
      rw [if_neg Bool.false_ne_true]
      exact ⟨ρ, S1, μ1, o, S', g1, r.mono g ev1.w, q, by have z := k.trans ev1; cases o <;> exact z⟩⟩
  · cases q
theorem asg_read {t : Tg} {K : PySem.W.Frag} {D : Ends} {σ : L2.St} {H : Hp} (h : tS K F w (.asg t ie) D σ H) : tAsg (tE K F ie) (gT K t) D σ H := by
  obtain ⟨ρ, S, μ, o, S', g, r, q, k⟩ := h
  simp only [ex] at q
  split at q
  · cases q
  · rename_i x S1 e1
    split at q
    · cases q
    · rename_i ρ' st
      cases q
      exact ⟨ρ, S, μ, x, _, g, r, e1, fun v μ1 H1 g1 ev1 rv => ⟨x, ρ, ρ', _, μ1, g1, r.mono g ev1.w, rv, st, fun σ' r' _ _ => k σ' μ1 H1 g1 ev1 r'⟩⟩
theorem s_set {i : Nat} {x : Str} {pos' : Pos} (ok : Cok X) (hi : X.N[i]? = some x) (hx : Loc X.env.scope x) (he : PE X e (tE X.K F ie)) (hs : swapsWith e (some (.Name x pos')) pos.line X.env = pure false := by rfl) (hf : X.fn x = true ∨ X.env.scope.names.lookup x = some .local := by first | exact .inl rfl | exact .inr rfl | assumption) :
    PS X (.Assign [.Name x pos'] e pos) (tS X.K F w (.asg (.n i) ie)) := PS.weak (ps_set ok.nd hi hx he hs hf) fun D σ H h => by
  obtain ⟨ρ, S, μ, d, S', g, r, q, k⟩ := asg_read h
  exact ⟨ρ, S, μ, d, S', g, r, q, fun v μ1 H1 g1 e1 rv => by
    obtain ⟨d2, ρ2, ρ3, S2, μ2, g2, r2, rv2, st2, k2⟩ := k v μ1 H1 g1 e1 rv
    cases st2
    exact k2 _ (r2.set i rv2) (by rw [List.length_set]) fun j hj => List.getElem?_set_ne (by intro z; exact hj (by simp [slotsT, z]))⟩
theorem s_asg {t : Tg} (he : PE X e (tE X.K F ie)) (hg : PG X tg (gT X.K t)) (hs : swapsWithSole [tg] e pos.line X.env = pure false := by rfl) (hw : swappedStores [tg] e X.env = pure none := by rfl)
    (h1 : (assignEach [tg] X.env).map (·.2) = [assign tg X.env] := by rfl) : PS X (.Assign [tg] e pos) (tS X.K F w (.asg t ie)) := PS.weak (ps_asg he hg hs hw h1) fun D σ H h => asg_read h
/-- name = [..] on one line -/
theorem s_setLc {i : Nat} {y : Str} {py spos : Pos} {mt : Bool} {t : Tg} {elt iter : Expr} {scope : Scope} {own : List (Str × Nat)} (ok : Cok X) (hy : X.N[i]? = some y) (hyl : X.env.scope.names.lookup y = some .local)
    (hsw : swapsWith (.ListComp elt [⟨tg, iter, [], 0⟩] scope pos) (some (.Name y py)) spos.line X.env = pure true) (hs : own.map (·.2) = slotsT t) (hi : PI X tg iter (tI X.K F ia)) (bk : BlkOk X.N X.env.scope scope own)
    (hg : ∀ s H C cl fp, PG (Blk X scope s H C cl fp) tg (gT X.K t)) (he : ∀ s H C cl fp, PE (Blk X scope s H C cl fp) elt (tE X.K F ie)) (hf : ∀ x, foldedSetIterable iter X.env x = pure x := by intro _; rfl) :
    PS X (.Assign [.Name y py] (.ListComp elt [⟨tg, iter, [], 0⟩] scope pos) spos) (tS X.K F w (.asg (.n i) (.comp mt t ia ie))) :=
  PS.weak (ps_setLc ok.calm ok.nd hy hyl hsw hi bk hg (fun _ _ _ _ _ => pts_nil) he hf) fun D σ H h => by
    rw [hs]
    obtain ⟨ρ, S, μ, d, S', g, r, q, k⟩ := asg_read h
    exact lc_plain ⟨ρ, S, μ, d, S', g, r, q, fun v μ1 H1 g1 e1 rv => by
      obtain ⟨d2, ρ2, ρ3, S2, μ2, g2, r2, rv2, st2, k2⟩ := k v μ1 H1 g1 e1 rv
      cases st2
      exact k2 _ (r2.set i rv2) (by rw [List.length_set]) fun j hj => List.getElem?_set_ne (by intro z; exact hj (by simp [slotsT, z]))⟩
theorem s_setLcI {i : Nat} {y : Str} {py spos : Pos} {mt : Bool} {t : Tg} {elt iter : Expr} {scope : Scope} {own : List (Str × Nat)} (ok : Cok X) (hy : X.N[i]? = some y) (hyl : X.env.scope.names.lookup y = some .local)
    (hsw : swapsWith (.ListComp elt [⟨tg, iter, [c], 0⟩] scope pos) (some (.Name y py)) spos.line X.env = pure true) (hs : own.map (·.2) = slotsT t) (hi : PI X tg iter (tI X.K F ia)) (bk : BlkOk X.N X.env.scope scope own)
    (hg : ∀ s H C cl fp, PG (Blk X scope s H C cl fp) tg (gT X.K t)) (hc : ∀ s H C cl fp, PT (Blk X scope s H C cl fp) c (tT X.K F ic)) (he : ∀ s H C cl fp, PE (Blk X scope s H C cl fp) elt (tE X.K F ie)) (hf : ∀ x, foldedSetIterable iter X.env x = pure x := by intro _; rfl) :
    PS X (.Assign [.Name y py] (.ListComp elt [⟨tg, iter, [c], 0⟩] scope pos) spos) (tS X.K F w (.asg (.n i) (.compI mt t ia ic ie))) :=
  PS.weak (ps_setLc ok.calm ok.nd hy hyl hsw hi bk hg (fun s H C cl fp => pts_one (hc s H C cl fp)) he hf) fun D σ H h => by
    rw [hs]
    obtain ⟨ρ, S, μ, d, S', g, r, q, k⟩ := asg_read h
    exact lc_if ⟨ρ, S, μ, d, S', g, r, q, fun v μ1 H1 g1 e1 rv => by
      obtain ⟨d2, ρ2, ρ3, S2, μ2, g2, r2, rv2, st2, k2⟩ := k v μ1 H1 g1 e1 rv
      cases st2
      exact k2 _ (r2.set i rv2) (by rw [List.length_set]) fun j hj => List.getElem?_set_ne (by intro z; exact hj (by simp [slotsT, z]))⟩
theorem s_setLc2 {i : Nat} {y : Str} {py spos : Pos} {mt : Bool} {t t2 : Tg} {elt iter tg2 iter2 : Expr} {scope : Scope} {own : List (Str × Nat)} (ok : Cok X) (hy : X.N[i]? = some y) (hyl : X.env.scope.names.lookup y = some .local)
    (hsw : swapsWith (.ListComp elt [⟨tg, iter, [], 0⟩, ⟨tg2, iter2, [], 0⟩] scope pos) (some (.Name y py)) spos.line X.env = pure true) (hs : own.map (·.2) = slotsT t ++ slotsT t2) (hi : PI X tg iter (tI X.K F ia)) (bk : BlkOk X.N X.env.scope scope own)
    (hg : ∀ s H C cl fp, PG (Blk X scope s H C cl fp) tg (gT X.K t)) (hi2 : ∀ s H C cl fp, PI (Blk X scope s H C cl fp) tg2 iter2 (tI X.K F ib)) (hg2 : ∀ s H C cl fp, PG (Blk X scope s H C cl fp) tg2 (gT X.K t2)) (he : ∀ s H C cl fp, PE (Blk X scope s H C cl fp) elt (tE X.K F ie)) (hf : ∀ x, foldedSetIterable iter X.env x = pure x := by intro _; rfl) (hf2 : ∀ env x, foldedSetIterable iter2 env x = pure x := by intro _ _; rfl) :
    PS X (.Assign [.Name y py] (.ListComp elt [⟨tg, iter, [], 0⟩, ⟨tg2, iter2, [], 0⟩] scope pos) spos) (tS X.K F w (.asg (.n i) (.comp2 mt t ia t2 ib ie))) :=
  PS.weak (ps_setLc2 ok.calm ok.nd hy hyl hsw hi bk (vs1 := slotsT t2) (by rw [hs]; exact fun i hi => List.mem_append_right _ hi) hg (fun _ _ _ _ _ => pts_nil) hi2 hg2 (fun _ _ _ _ _ => pts_nil) he hf hf2) fun D σ H h => by
    rw [hs]
    obtain ⟨ρ, S, μ, d, S', g, r, q, k⟩ := asg_read h
    exact lc_two ⟨ρ, S, μ, d, S', g, r, q, fun v μ1 H1 g1 e1 rv => by
      obtain ⟨d2, ρ2, ρ3, S2, μ2, g2, r2, rv2, st2, k2⟩ := k v μ1 H1 g1 e1 rv
      cases st2
      exact k2 _ (r2.set i rv2) (by rw [List.length_set]) fun j hj => List.getElem?_set_ne (by intro z; exact hj (by simp [slotsT, z]))⟩
/-- a, b = x, y -/
theorem s_par2 {i j : Nat} {x y : Str} {px py pt : Pos} {kt k2 : Nat} {pt2 : Pos} (ok : Cok X) (hi : X.N[i]? = some x) (hj : X.N[j]? = some y) (hij : i ≠ j) (hx : X.env.scope.names.lookup x = some .local) (hy : X.env.scope.names.lookup y = some .local) (ha : PA X [a, b] (tA X.K F ies))
    (hw : swappedStores [.Tuple [.Name x px, .Name y py] kt pt] (.Tuple [a, b] k2 pt2) X.env = pure (some [x, y])) (hs : swapsWithSole [.Tuple [.Name x px, .Name y py] kt pt] (.Tuple [a, b] k2 pt2) pos.line X.env = pure false := by rfl) :
    PS X (.Assign [.Tuple [.Name x px, .Name y py] kt pt] (.Tuple [a, b] k2 pt2) pos) (tS X.K F w (.par [i, j] ies)) := PS.weak (ps_par ok.calm ok.nd hi hj hij hx hy ha hw hs) fun D σ H ⟨ρ, S, μ, o, S', g, r, q, k⟩ => by
  simp only [ex] at q
  split at q
  · cases q
  · rename_i xs S1 e1
    split at q
    · rename_i hl
      cases q
      match xs, hl with
      | [x1, x2], _ =>
        exact ⟨ρ, S, μ, _, _, g, r, e1, fun vs μ1 H1 g1 ev1 rv => by
          obtain ⟨v, ws, rfl, hv, hw⟩ := rv
          obtain ⟨w, rfl, hw2⟩ := reps1 hw
          exact ⟨v, w, rfl, k _ μ1 H1 g1 ev1 (((r.mono g ev1.w).set i hv).set j hw2)⟩⟩
    · cases q
theorem s_par3 {i j l : Nat} {x y z : Str} {px py pz pt : Pos} {kt k2 : Nat} {pt2 : Pos} (ok : Cok X) (hi : X.N[i]? = some x) (hj : X.N[j]? = some y) (hl : X.N[l]? = some z) (hij : i ≠ j) (hil : i ≠ l) (hjl : j ≠ l) (hx : X.env.scope.names.lookup x = some .local) (hy : X.env.scope.names.lookup y = some .local) (hz : X.env.scope.names.lookup z = some .local)
    (ha : PA X [a, b, c] (tA X.K F ies)) (hw : swappedStores [.Tuple [.Name x px, .Name y py, .Name z pz] kt pt] (.Tuple [a, b, c] k2 pt2) X.env = pure (some [x, y, z])) (hs : swapsWithSole [.Tuple [.Name x px, .Name y py, .Name z pz] kt pt] (.Tuple [a, b, c] k2 pt2) pos.line X.env = pure false := by rfl) :
    PS X (.Assign [.Tuple [.Name x px, .Name y py, .Name z pz] kt pt] (.Tuple [a, b, c] k2 pt2) pos) (tS X.K F w (.par [i, j, l] ies)) := PS.weak (ps_par3 ok.calm ok.nd hi hj hl hij hil hjl hx hy hz ha hw hs) fun D σ H ⟨ρ, S, μ, o, S', g, r, q, k⟩ => by
  simp only [ex] at q
  split at q
  · cases q
  · rename_i xs S1 e1
    split at q
    · rename_i hl
      cases q
      match xs, hl with
      | [x1, x2, x3], _ =>
        exact ⟨ρ, S, μ, _, _, g, r, e1, fun vs μ1 H1 g1 ev1 rv => by
          obtain ⟨v, ws, rfl, hv, hw⟩ := rv
          obtain ⟨w, us, rfl, hw1, hw2⟩ := hw
          obtain ⟨u, rfl, hu⟩ := reps1 hw2
          exact ⟨v, w, u, rfl, k _ μ1 H1 g1 ev1 ((((r.mono g ev1.w).set i hv).set j hw1).set l hu)⟩⟩
    · cases q
/-- o[i] = e -/
theorem s_put {sp : Pos} (ho : PE X a (tE X.K F ia)) (hi : PE X b (tE X.K F ib)) (he : PE X e (tE X.K F ie))
    (ha : ∀ v, assign (.Subscript a b sp) X.env v = (do
      let ov ← holding [v] (eval a X.env)
      let iv ← holding [v, ov] (eval b X.env)
      standAt sp
      holding [v, ov, iv] (setItem ov iv v)
      release [v, ov, iv] []) := by intro _; rfl)
    (hs : swapsWithSole [.Subscript a b sp] e pos.line X.env = pure false := by rfl) (hw : swappedStores [.Subscript a b sp] e X.env = pure none := by rfl)
    (h1 : (assignEach [.Subscript a b sp] X.env).map (·.2) = [assign (.Subscript a b sp) X.env] := by rfl) : PS X (.Assign [.Subscript a b sp] e pos) (tS X.K F w (.put ia ib ie)) :=
  PS.weak (ps_asg he (pg_sub ho hi set_list ha) hs hw h1) fun D σ H ⟨ρ, S, μ, o, S', g, r, q, k⟩ => by
    simp only [ex] at q
    split at q
    · cases q
    · rename_i x S1 e1
      split at q
      · rename_i l S2 e2
        split at q
        · rename_i kk S3 e3
          split at q
          · rename_i xs hS
            split at q
            · rename_i j hj
              · cases q
                refine ⟨ρ, S, μ, x, S1, g, r, e1, fun v μ1 H1 g1 ev1 rv => ⟨ρ, S1, μ1, _, S2, g1, r.mono g ev1.w, e2, fun ov μ2 H2 g2 ev2 ro => ⟨ρ, S2, μ2, _, S3, g2, r.mono g (ev1.trans ev2).w, e3, fun iv μ3 H3 g3 ev3 ri => ?_⟩⟩⟩
                obtain ⟨p, rfl, mp⟩ := ro.mono g2 ev3.w
                obtain ⟨p2, vs, mp2, hH, rr⟩ := g3.at_ _ _ hS
                rw [mp] at mp2; cases mp2
                cases (show iv = V.int kk from ri)
                have ev12 := ev1.trans (ev2.trans ev3)
                have hp4 := evo_put (o := .lst (vs.set j v)) (ys := xs.set j x) g3 hS mp
                have g4 := good_put g3 hS mp (Reps.set ((rv.mono g1 (ev2.trans ev3).w)) j rr)
                exact ⟨p, vs, kk, j, rfl, rfl, hH, by rw [← rr.length]; exact hj, k σ μ3 _ g4 (ev12.trans hp4) (r.mono g (ev12.trans hp4).w)⟩
            · cases q
          · cases q
        · cases q
      · cases q

theorem s_for {t : Tg} {iter : Expr} (ok : Cok X) (hp : PassesOwn (model X.prog X.w) X.A X.env X.xe) (hi : PI X tg iter (tI X.K F ia)) (hg : PG X tg (gT X.K t)) (hb : PSs X sts (tSs X.K F w iss)) (hf : ∀ x, foldedSetIterable iter X.env x = pure x := by intro _; rfl) :
    PS X (.For tg iter sts [] pos) (tS X.K F w (.for t ia iss)) := PS.weak (ps_for hp ok.calm hi hg hb hf) fun D σ H ⟨ρ, S, μ, o, S', g, r, q, k⟩ => by
  simp only [ex] at q
  split at q
  · cases q
  · rename_i x S1 e1
    split at q
    · cases q
    · rename_i xs hx
      refine ⟨ρ, S, μ, x, S1, xs, g, r, e1, hx, fun J μ1 H1 g1 ev1 W => ?_⟩
      refine ⟨fun i m σ2 H2 => m = xs.length - i ∧ i ≤ xs.length ∧ ∃ (ρ2 : Env) (S2 : Sto) (μ2 : Mu), Good X.K S2 μ2 H2 ∧ Evo S1 μ1 H1 S2 μ2 H2 ∧ RelS X.K S2 μ2 H2 ρ2 σ2 ∧ forRun t (fun ρ S => exs F w iss ρ S) (xs.drop i) ρ2 S2 = some (o, S'),
        ⟨xs.length, by simp, Nat.zero_le _, ρ, S1, μ1, g1, Evo.refl _ _ _, r.mono g ev1.w, q⟩, ?_⟩
      rintro i m σ2 H2 ⟨rfl, hi, ρ2, S2, μ2, g2, ev2, r2, ec⟩
      obtain ⟨go, stop, yl⟩ := W S2 μ2 H2 g2 ev2.w
      by_cases hlt : i < xs.length
      · refine .inr ⟨go i hlt, _, fun σ' H' h' => ⟨xs.length - (i + 1), by omega, h'⟩, fun v H4 hy => ?_⟩
        obtain ⟨dd, hdd, g4, e4, r4⟩ := yl i v H4 hlt hy
        have edrop : xs.drop i = dd :: xs.drop (i + 1) := by
          rw [List.drop_eq_getElem_cons hlt]
          rw [List.getElem?_eq_getElem hlt] at hdd
          cases hdd
          rfl
        rw [edrop] at ec
        unfold forRun at ec
        split at ec
        · cases ec
        · rename_i ρ3 st
          refine ⟨dd, ρ2, ρ3, S2, μ2, g4, r2.mono g2 e4.w, r4, st, fun σ3 r3 _ _ => ?_⟩
          have ev24 := ev2.trans e4
          split at ec
          · cases ec
          · rename_i ρ4 S4 eb
            exact ⟨ρ3, S2, μ2, _, S4, g4, r3, eb, fun σ5 μ5 H5 g5 ev5 r5 => ⟨rfl, hlt, ρ4, S4, μ5, g5, ev24.trans ev5, r5, ec⟩⟩
          · rename_i ρ4 S4 eb
            exact ⟨ρ3, S2, μ2, _, S4, g4, r3, eb, fun σ5 μ5 H5 g5 ev5 r5 => ⟨rfl, hlt, ρ4, S4, μ5, g5, ev24.trans ev5, r5, ec⟩⟩
          · rename_i ρ4 S4 eb
            cases ec
            exact ⟨ρ3, S2, μ2, _, _, g4, r3, eb, fun σ5 μ5 H5 g5 ev5 r5 => k σ5 μ5 H5 g5 (ev1.trans (ev24.trans ev5)) r5⟩
          · rename_i d4 S4 eb
            cases ec
            exact ⟨ρ3, S2, μ2, _, _, g4, r3, eb, fun v5 μ5 H5 g5 ev5 r5 => k v5 μ5 H5 g5 (ev1.trans (ev24.trans ev5)) r5⟩
      · have hi' : i = xs.length := by omega
        subst hi'
        rw [List.drop_length] at ec
        unfold forRun at ec
        cases ec
        exact .inl ⟨stop, k σ2 μ2 H2 g2 (ev1.trans ev2) r2⟩
theorem s_wh (hp : PassesOwn (model X.prog X.w) X.A X.env X.xe) (hc : PT X c (tT X.K F ic)) (hb : PSs X sts (tSs X.K F w iss)) : PS X (.While c sts [] pos) (tS X.K F w (.wh ic iss)) := PS.weak (ps_while hp hc hb) fun D σ H ⟨ρ, S, μ, o, S', g, r, q, k⟩ => by
  simp only [ex] at q
  refine ⟨fun m σ2 H2 => ∃ (ρ2 : Env) (S2 : Sto) (μ2 : Mu), Good X.K S2 μ2 H2 ∧ Evo S μ H S2 μ2 H2 ∧ RelS X.K S2 μ2 H2 ρ2 σ2 ∧ whRun (fun ρ S => ev F ic ρ S) (fun ρ S => exs F w iss ρ S) m ρ2 S2 = some (o, S'), ⟨w, ρ, S, μ, g, Evo.refl _ _ _, r, q⟩, ?_⟩
  rintro m σ2 H2 ⟨ρ2, S2, μ2, g2, ev2, r2, ec⟩
  cases m with
  | zero => cases ec
  | succ m =>
    unfold whRun at ec
    split at ec
    · rename_i S3 et
      cases ec
      exact ⟨ρ2, S2, μ2, false, _, g2, r2, et, fun μ3 H3 g3 ev3 => by
        show (if false = true then _ else _)
        rw [if_neg Bool.false_ne_true]
        exact k σ2 μ3 H3 g3 (ev2.trans ev3) (r2.mono g2 ev3.w)⟩
    · rename_i S3 et
      refine ⟨ρ2, S2, μ2, true, S3, g2, r2, et, fun μ3 H3 g3 ev3 => ?_⟩
      show (if true = true then _ else _)
      rw [if_pos rfl]
      refine ⟨_, fun σ' H' h' => ⟨m, Nat.lt_succ_self m, h'⟩, ?_⟩
      have ev23 := ev2.trans ev3
      have r3 := r2.mono g2 ev3.w
      split at ec
      · cases ec
      · rename_i ρ4 S4 eb
        exact ⟨ρ2, S3, μ3, _, S4, g3, r3, eb, fun σ5 μ5 H5 g5 ev5 r5 => ⟨ρ4, S4, μ5, g5, ev23.trans ev5, r5, ec⟩⟩
      · rename_i ρ4 S4 eb
        exact ⟨ρ2, S3, μ3, _, S4, g3, r3, eb, fun σ5 μ5 H5 g5 ev5 r5 => ⟨ρ4, S4, μ5, g5, ev23.trans ev5, r5, ec⟩⟩
      · rename_i ρ4 S4 eb
        cases ec
        exact ⟨ρ2, S3, μ3, _, _, g3, r3, eb, fun σ5 μ5 H5 g5 ev5 r5 => k σ5 μ5 H5 g5 (ev23.trans ev5) r5⟩
      · rename_i d4 S4 eb
        cases ec
        exact ⟨ρ2, S3, μ3, _, _, g3, r3, eb, fun v5 μ5 H5 g5 ev5 r5 => k v5 μ5 H5 g5 (ev23.trans ev5) r5⟩
    · cases ec
end
end Iv

set_option Elab.async false
set_option linter.all false
set_option maxRecDepth 100000
set_option maxHeartbeats 1000000
namespace Iv
open PySem PySem.Spec PyProof.Rows L2

/-- the code of a def, at its entry -/
abbrev BodyX (P : Program) (w : World) (K : PySem.W.Frag) (mg : Str → Option Value) (base : Heap) (N : List Str) (qual : Str) (scope : Scope) (f : Addr) (cdv : Value) (A : Around) (outer : List PySem.Env) (s : Shared) (H : Hp) : Cx := (cxOf L2.CX0 P w K mg base N qual scope f cdv A outer s H L2.E0).nox
section
variable {P : Program} {w : World} {K : PySem.W.Frag} {mg : Str → Option Value} {base : Heap}
/-- a def keeps what the evaluation of its body says -/
theorem fnI_of {T : List Fn} {wh k fi : Nat} {fn : Fn} {f : Addr} {fd : FuncData} {x qual : Str} {params : Arguments} {body : List Stmt} {scope : Scope} {N ps : List Str} (FD : FunD K x qual params body scope [] [] f fd) (sc : FnScope N ps scope) (hT : T[fi]? = some fn) (har : fn.ar = ps.length) (hsl : fn.sl = N.length)
    (hbody : ∀ cdv A outer s H, Room k (A.deeper (envOfC qual scope s.heap.objs.size f cdv)) → Cok (BodyX P w K mg base N qual scope f cdv A outer s H) → PSs (BodyX P w K mg base N qual scope f cdv A outer s H) body (tSs K (run T wh k) wh fn.body)) :
    FnI P w K mg base (k + 1) f fd ps (spI K (run T wh (k + 1)) fn.ar fi) := by
  obtain ⟨oc, od, dV, kV, doc, pm, an, cdv, ct, osl, rfl, lk, hcd, _, _⟩ := FD.ex
  have hlen : ∀ vs H Q, spI K (run T wh (k + 1)) fn.ar fi vs H Q → vs.length = ps.length := fun vs H Q ⟨S, μ, ds, d, S', g, rv, hl, _⟩ => by rw [← rv.length, hl, har]
  refine ⟨hlen, fun A outer s H args us vs Q hr hgd e0 hb r hsp => ?_⟩
  have hl := hlen _ _ _ hsp
  have inBase : ∀ b o, base.get? b = some o → s.heap.get? b = some o := fun b o q => (e0.bs b o q).1
  have KX : K.In s.heap := e0.mod.kin.keeps inBase
  have lim : s.heap.NoLimit := e0.mod.nolimit.keeps inBase
  have hkind : ∀ y ∈ ps.zip us, scope.names.lookup y.1 = some .local ∨ (scope.names.lookup y.1 = some .cell ∧ ((cellsFrom (s.heap.objs.size + 1) scope.names []).lookup y.1).isSome = true) := by
    rintro ⟨n, v⟩ hy
    have hn := (List.of_mem_zip hy).1
    rcases sc.par n hn with z | z
    · exact .inl z
    · exact .inr ⟨z, PySem.W.cellsFrom_some _ _ _ (.inl z)⟩
  refine codeAny_call_function hr.depth (KX _ _ lk) rfl sc.co sc.gen rfl (PySem.W.codeRec_of KX hcd) (hb _ _ _ _ ?_)
  refine wpAny_newFunctionEnv_cells sc.kind hkind fun env he s1 entry => ?_
  cases he
  refine ⟨lim.keeps entry.toInCall.keep, codeAny_func ?_⟩
  have hroom : Room k (A.deeper (envOfC qual scope s.heap.objs.size f cdv)) := hr.deeper _
  have ok : Cok (BodyX P w K mg base N qual scope f cdv A outer s H) := ⟨sc.nd, rfl, hgd, by have := hr.un; show A.units + 3 + 200 < cLine; omega⟩
  have I : Inv (cxOf L2.CX0 P w K mg base N qual scope f cdv A outer s H L2.E0) [] (L2.start N vs) H s1 := inv_start sc hr.hd e0 hl r entry
  obtain ⟨S, μ, ds, d, S', g, rv, hd, q, kk⟩ := hsp
  -- the slots at the entry
  have rel : RelS K S μ H (ds.map some ++ List.replicate (fn.sl - fn.ar) none) (L2.start N vs) := by
    refine ⟨by unfold L2.start; rw [List.length_append, List.length_append, List.length_map, List.length_map, List.length_replicate, List.length_replicate, hsl, har, hl, ← hl, ← rv.length], fun i c hc => ?_⟩
    by_cases hi : i < ds.length
    · rw [List.getElem?_append_left (by rw [List.length_map]; exact hi), List.getElem?_map] at hc
      cases e : ds[i]? with
      | none => rw [e] at hc; cases hc
      | some c' =>
        rw [e] at hc
        cases hc
        obtain ⟨v, h1, h2⟩ := rv.get e
        refine ⟨v, ?_, h2⟩
        unfold L2.start
        rw [List.getElem?_append_left (by rw [List.length_map, ← rv.length]; exact hi), List.getElem?_map, h1]
        rfl
    · rw [List.getElem?_append_right (by rw [List.length_map]; omega), List.getElem?_replicate] at hc
      split at hc
      · cases hc
      · cases hc
  have q1 : ∃ o S1, exs (run T wh k) wh fn.body (ds.map some ++ List.replicate (fn.sl - fn.ar) none) S = some (o, S1) ∧ ((∃ ρ, o = .nx ρ ∧ d = .non ∧ S' = leave S.length .non S1) ∨ (o = .rt d ∧ S' = leave S.length d S1)) := by
    unfold run at q
    simp only [hT] at q
    rw [if_pos hd] at q
    split at q
    · rename_i d1 S1 e1
      cases q
      exact ⟨_, _, e1, .inr ⟨rfl, rfl⟩⟩
    · rename_i ρ1 S1 e1
      cases q
      exact ⟨_, _, e1, .inl ⟨_, rfl, rfl, rfl⟩⟩
    · cases q
  obtain ⟨o, S1, e1, ends⟩ := q1
  -- what is forgotten at the end
  have fin : ∀ (c : D) (v : V) (μ1 : Mu) (H1 : Hp), d = c → S' = leave S.length c S1 → Good K S1 μ1 H1 → Evo S μ H S1 μ1 H1 → Rep K S1 μ1 H1 c v → Q v H1 := by
    intro c v μ1 H1 hc hS g1 ev1 rv1
    subst hc
    unfold leave at hS
    split at hS
    · rename_i hp
      subst hS
      rw [Bool.and_eq_true] at hp
      exact kk v (μ1.take S.length) H1 (good_take g1 _ hp.2) (evo_take g.len.symm ev1) (Rep.forget (fun a l => live_take l) hp.1 rv1)
    · subst hS
      exact kk v μ1 H1 g1 ev1 rv1
  have hbod := hbody cdv A outer s H hroom ok
  refine wpAny_mono (hbod.run [] s1 (L2.start N vs) H { nx := fun _ H' => Q .non H', rt := Q } (I.wish _) ⟨_, S, μ, o, S1, g, rel, e1, ?_⟩) (fun fl s' hs => ?_) fun e s' hs => False.elim hs
  · rcases ends with ⟨ρ1, rfl, rfl, hS⟩ | ⟨rfl, hS⟩
    · exact fun σ' μ' H' g' e' _ => fin .non .non μ' H' rfl hS g' e' rfl
    · exact fun v μ' H' g' e' rv' => fin d v μ' H' rfl hS g' e' rv'
  · have fin2 : ∀ {σ' : L2.St} {H' : Hp} {v : V} {u : Value}, Inv (cxOf L2.CX0 P w K mg base N qual scope f cdv A outer s H L2.E0) [] σ' H' s' → RelV v u → Q v H' → CE outer P w H s Q u s' :=
      fun J rv q => ⟨_, _, J.os, J.bare, J.base, J.hok, rv, q⟩
    have hs' := hs.unwish
    cases fl with
    | ret u =>
      obtain ⟨v, σ', H', J, rv', q'⟩ := hs'
      exact fin2 J rv' q'
    | next =>
      obtain ⟨σ', H', J, q'⟩ := hs'
      exact fin2 (v := V.non) (u := Value.none) J rfl q'
    | brk =>
      obtain ⟨_, _, _, q'⟩ := hs'
      exact False.elim q'
    | cont =>
      obtain ⟨_, _, _, q'⟩ := hs'
      exact False.elim q'
theorem run_ar {T : List Fn} {wh n fi : Nat} {fn : Fn} (hT : T[fi]? = some fn) : ∀ ds S r, run T wh n fi ds S = some r → ds.length = fn.ar := by
  intro ds S r h
  cases n with
  | zero => cases h
  | succ n =>
    unfold run at h
    simp only [hT] at h
    split at h
    · rename_i e
      exact e
    · cases h
end
structure DefI where
  name : Str
  ps : List Str
  N : List Str
  fn : Fn
  params : Arguments
  body : List Stmt
  scope : Scope
/-- what the top has left -/
structure TopOk (K : PySem.W.Frag) (mg : Str → Option Value) (Ds : List DefI) : Prop where
  dfn : ∀ (i : Nat) (d : DefI), Ds[i]? = some d → ∃ f fd, mg d.name = some (.ref f) ∧ FunD K d.name d.name d.params d.body d.scope [] [] f fd ∧ Binds K fd d.ps []
  sc : ∀ (i : Nat) (d : DefI), Ds[i]? = some d → FnScope d.N d.ps d.scope ∧ d.fn.ar = d.ps.length ∧ d.fn.sl = d.N.length
abbrev Fns (Ds : List DefI) : List Fn := Ds.map (·.fn)
/-- keywords bind so -/
def KwOk (d : DefI) (n : Nat) (ks : List Str) (pm : List Nat) : Prop := ∀ (kV doc pmv : Value) (an : Option Addr) (cdv ct : Value) (us ws : List Value), us.length = n → ws.length = ks.length →
  bindArgs (PySem.W.fnOf d.name d.name d.params d.body d.scope .none kV doc pmv an cdv ct) ⟨us, ks.zip ws⟩ = pure (d.ps.zip (prm pm (us ++ ws)))
/-- what a body may lean on -/
structure BodyOk (X : Cx) (Ds : List DefI) (wh k : Nat) : Prop where
  ok : Cok X
  call : ∀ (i : Nat) (d : DefI), Ds[i]? = some d → CallOk X (run (Fns Ds) wh k) i d.fn.ar d.name
  callK : ∀ (i : Nat) (d : DefI) (n : Nat) (ks : List Str) (pm : List Nat), Ds[i]? = some d → KwOk d n ks pm → CallKOk X (run (Fns Ds) wh k) i d.fn.ar d.name n ks pm
section
variable {P : Program} {w : World} {K : PySem.W.Frag} {mg : Str → Option Value} {base : Heap}
theorem fns_get {Ds : List DefI} {i : Nat} {d : DefI} (h : Ds[i]? = some d) : (Fns Ds)[i]? = some d.fn := by rw [List.getElem?_map, h]; rfl
theorem all_fnI {Ds : List DefI} {wh : Nat} (T : TopOk K mg Ds)
    (bodies : ∀ (i : Nat) (d : DefI), Ds[i]? = some d → ∀ k f cdv A outer s H, BodyOk (BodyX P w K mg base d.N d.name d.scope f cdv A outer s H) Ds wh k → PSs (BodyX P w K mg base d.N d.name d.scope f cdv A outer s H) d.body (tSs K (run (Fns Ds) wh k) wh d.fn.body)) :
    ∀ (k : Nat) (i : Nat) (d : DefI) f fd, Ds[i]? = some d → mg d.name = some (.ref f) → FunD K d.name d.name d.params d.body d.scope [] [] f fd → FnI P w K mg base k f fd d.ps (spI K (run (Fns Ds) wh k) d.fn.ar i) := by
  intro k
  induction k with
  | zero =>
    intro i d f fd hi hm D
    exact ⟨(fun vs H Q h => by obtain ⟨_, _, _, _, _, _, _, _, q, _⟩ := h; cases q), (fun _ _ _ _ _ _ _ _ _ _ _ _ _ h => by obtain ⟨_, _, _, _, _, _, _, _, q, _⟩ := h; cases q)⟩
  | succ k ih =>
    intro i d f fd hi hm D
    obtain ⟨s1, s2, s3⟩ := T.sc i d hi
    refine fnI_of D s1 (fns_get hi) s2 s3 fun cdv A outer s H hr ok => bodies i d hi k f cdv A outer s H ⟨ok, fun j e hj => ?_, fun j e n ks pm hj hkw => ?_⟩
    · obtain ⟨f2, fd2, hm2, D2, hb2⟩ := T.dfn j e hj
      exact ⟨run_ar (fns_get hj), f2, fd2, e.ps, k, hm2, D2.kp, hb2, hr, ih j e f2 fd2 hj hm2 D2⟩
    · obtain ⟨f2, fd2, hm2, D2, hb2⟩ := T.dfn j e hj
      refine ⟨run_ar (fns_get hj), f2, fd2, e.ps, k, hm2, D2.kp, fun s us ws h1 h2 => ?_, hr, ih j e f2 fd2 hj hm2 D2⟩
      obtain ⟨oc, od, dV, kV, doc, pmv, an, cdv2, ct, osl, rfl, lk, hcd, hD, hK⟩ := D2.ex
      rcases hD with ⟨_, rfl⟩ | ⟨z, _⟩
      · exact .of_eq (hkw kV doc pmv an cdv2 ct us ws h1 h2)
      · exact absurd rfl z
end

theorem law_I {P : Program} {w : World} {K : PySem.W.Frag} {mg mb : Str → Option Value} {k fi : Nat} {F : CF} {fa a : Addr} {fd : FuncData} {x : Str} {s1 : Shared} {vs : List Value} {ns : List Int}
    (KX : K.In s1.heap) (hns : s1.heap.Ns mainGlobals mg) (hb : s1.heap.Ns builtinsNs mb) (hbb : ∀ x : Str, x ≠ "__name__" → mb x = bootBuiltins x) (hlim : s1.heap.NoLimit) (hg : s1.gens = #[])
    (ha : s1.heap.get? a = some { cls := .type "list", data := .seq vs.toArray }) (hi : IntsAre vs ns) (hl : ns.length ≤ sizeLine) (hr : Room k callerA)
    (G : ∀ base : Heap, K.In base → base.Ns mainGlobals mg → FnI P w K mg base k fa fd [x] (spI K F 1 fi)) (hbind : ∀ (s : Shared) (u : Value), BindsTo s fd ⟨[u], []⟩ [(x, u)])
    (hrun : ∃ S', F fi [.lst (ns.map D.int)] [] = some (.bl true, S')) :
    codeAny (model P w) callerA (.call (.ref fa) ⟨[.ref a], []⟩) (fun r s' => r = .ok (.ret (.bool true)) ∧ OldK s1.heap s'.heap ∧ s'.os = s1.os ∧ AllBare s'.gens) s1 := by
  have rv := vals_ints hi
  have lenV := hi.length
  have good0 : ∀ H : Hp, Good K [] ⟨[], []⟩ H := fun H => ⟨rfl, fun i xs q => by simp at q, fun i j xs ys a q => by simp at q, fun a ha => by simp at ha, fun a ha => by simp at ha⟩
  have repsI : ∀ (H : Hp) (ns : List Int), Reps K [] ⟨[], []⟩ H (ns.map D.int) (ns.map V.int) := fun H ns => by
    induction ns with
    | nil => rfl
    | cons n ns ih => exact ⟨_, _, rfl, rfl, ih⟩
  have noLive : ∀ b, ¬ Live [] ⟨[], []⟩ b := fun b l => by
    rcases l with ⟨i, xs, q, _⟩ | l
    · simp at q
    · simp at l
  obtain ⟨S', hrun⟩ := hrun
  have core : ∀ H : Hp, L2.Only H → ((Rd H a (.lst (ns.map V.int)) ∧ ¬ Live [] ⟨[], []⟩ a) ∨ KL K a (ns.map V.int)) → HOk P w H s1.heap → (∀ b, H b ≠ none → b = a) → (H a ≠ none → K.lookup a = none) →
      codeAny (model P w) callerA (.call (.ref fa) ⟨[.ref a], []⟩) (fun r s' => r = .ok (.ret (.bool true)) ∧ OldK s1.heap s'.heap ∧ s'.os = s1.os ∧ AllBare s'.gens) s1 := by
    intro H hO hS hok hA hK
    have dictFree : ∀ {b : Addr} {o : Obj} {es : Array DictEntry} {ep : Nat}, s1.heap.get? b = some o → o.data = .dict es ep → H b = none := by
      intro b o es ep q dd
      cases hb' : H b with
      | none => rfl
      | some u =>
        have eb := hA b (by rw [hb']; simp)
        subst eb
        rw [ha] at q
        cases q
        cases (show Data.seq vs.toArray _ = Data.dict es ep from dd)
    have keepNs : ∀ {b : Addr} {m : Str → Option Value}, s1.heap.Ns b m → (hidT s1.heap H).Ns b m := fun {b m} ⟨o, es, ep, q, dd, r⟩ => ⟨o, es, ep, hidT_get q (dictFree q dd), dd, r⟩
    have keepK : K.In (hidT s1.heap H) := by
      intro b o q
      refine hidT_get (KX b o q) ?_
      cases hb' : H b with
      | none => rfl
      | some u =>
        have eb := hA b (by rw [hb']; simp)
        subst eb
        rw [hK (by rw [hb']; simp)] at q
        cases q
    have hM : Mod K mg (hidT s1.heap H) := ⟨keepK, keepNs hns, ⟨mb, keepNs hb, hbb⟩, let ⟨mc, h1, h2⟩ := hlim; ⟨mc, keepNs h1, h2⟩⟩
    have e0 : Env0 P w K mg (hidT s1.heap H) callerA [] s1 H := ⟨rfl, hM, fun b o q => of_hidT q, Nat.le_of_eq (hidT_size _ _), trivial, fun b hb => by simp [frs] at hb, hok, .of_eq hg⟩
    have hq : spI K F 1 fi [.ref a] H (fun v _ => v = .bl true) := ⟨[], ⟨[], []⟩, [.lst (ns.map D.int)], .bl true, S', good0 H, ⟨.ref a, [], rfl, ⟨a, _, rfl, hS, repsI H ns⟩, rfl⟩, rfl, hrun, fun v μ' H' _ _ rv => rv⟩
    refine codeAny_mono ((G _ keepK (keepNs hns)).run callerA [] s1 H ⟨[.ref a], []⟩ [.ref a] [.ref a] _ hr rfl e0 (hbind s1 (.ref a)) (.cons rfl .nil) hq) fun r s' h => ?_
    cases r with
    | error e => exact False.elim h
    | ok fl =>
      cases fl with
      | next => exact False.elim h
      | brk => exact False.elim h
      | cont => exact False.elim h
      | ret u =>
        obtain ⟨v, H', os, bare, un, hok', r', q⟩ := h
        cases (show v = .bl true from q)
        cases (show u = Value.bool true from r')
        refine ⟨rfl, OldK.of_keep fun b o e => ?_, os, bare⟩
        cases q : H b with
        | none => exact un.keep b o e q (by simp [frs]) (by simp)
        | some u =>
          rcases hO b with z | ⟨ob, xs, z⟩
          · rw [q] at z; cases z
          · obtain ⟨e1, _⟩ := hok b _ z
            obtain ⟨e2, _⟩ := hok' b _ (un.frzs b ob _ z)
            rw [e] at e1; cases e1
            exact e2
  cases hk : K.lookup a with
  | some o =>
    have e := KX a o hk
    rw [ha] at e
    cases e
    exact core (fun _ => none) (fun _ => .inl rfl) (.inr ⟨vs, 0, hk, by rw [lenV]; exact hl, rv⟩) (fun b u z => by cases (show (none : Option HO) = some u from z)) (fun b z => absurd rfl z) fun z => absurd rfl z
  | none =>
    refine core (fun b => if b = a then some (.frz { cls := .type "list", data := .seq vs.toArray } (.lst (ns.map V.int))) else none) (fun b => ?_) (.inl ⟨.inr ⟨{ cls := .type "list", data := .seq vs.toArray }, if_pos rfl⟩, noLive a⟩) (fun b u z => ?_) (fun b z => ?_) fun _ => hk
    · by_cases hb : b = a
      · exact .inr ⟨_, _, if_pos hb⟩
      · exact .inl (if_neg hb)
    · by_cases hb : b = a
      · cases (if_pos hb).symm.trans z
        subst hb
        exact ⟨ha, by rw [List.length_map]; exact hl, vs, _, rv, ha⟩
      · cases (if_neg hb).symm.trans z
    · by_cases hb : b = a
      · exact hb
      · exact absurd (if_neg hb) z
theorem walk_I {l : PySem.W.OpenLaw} {n k fi : Nat} {q : Program} {loose : List Str} {XP : (Str → Option Value) → Heap → Prop} {YP : World → Heap → Prop} {d : DefRec} {F : CF} {x : Str} (hn : l.most = some n) (hn2 : n ≤ sizeLine) (hdf : d.params.defaults = []) (hr : Room k callerA)
    (G : ∀ (w : World) (mg : Str → Option Value) (fa : Addr) (h : Heap), YP w h → h.Ns mainGlobals mg → mg d.name = some (.ref fa) → ∃ (K : PySem.W.Frag) (fd : FuncData), K.In h ∧ (∀ (s : Shared) (u : Value), BindsTo s fd ⟨[u], []⟩ [(x, u)]) ∧
      ∀ base : Heap, K.In base → base.Ns mainGlobals mg → FnI l.prog w K mg base k fa fd [x] (spI K F 1 fi))
    (hrun : ∀ ns : List Int, ns.length ≤ n → ∃ S', F fi [.lst (ns.map D.int)] [] = some (.bl true, S')) : PySem.W.WalkO q loose XP YP l.row.toRowW d [] (fun f vs => PySem.call f vs) := by
  refine Att.attach_call hn hdf fun w s0 s1 mg mb fa o pm cd doc a vs ns Gr Y ho hd hcd hmg hobj hints hlen hg => ?_
  obtain ⟨K, fd, KX, hb, hF⟩ := G w mg fa _ Y Gr.T.g hmg
  exact law_I KX Gr.T.g Gr.T.b Gr.T.builtins Gr.T.nolimit hg hobj hints (Nat.le_trans hlen hn2) hr hF hb (hrun ns hlen)
end Iv

set_option Elab.async false
set_option linter.all false
set_option maxRecDepth 100000
set_option maxHeartbeats 4000000
namespace Iv
open PySem PySem.Spec PyProof.Rows L2
def isSq (nm : String) (nd : Bool) (K : PySem.W.Frag) (a : Addr) : Option (List Value) := match K.lookup a with
  | some ⟨.type c, od, .seq its _, _⟩ => if c = nm ∧ its.size ≤ sizeLine ∧ (nd = true → od = none) then some its.toList else none
  | _ => none
theorem isSq_ok {nm : String} {nd : Bool} {K : PySem.W.Frag} {a : Addr} {us : List Value} (h : isSq nm nd K a = some us) :
    ∃ (o : Obj) (its : Array Value) (n : Nat), K.lookup a = some o ∧ o.cls = .type nm ∧ (nd = true → o.dict = none) ∧ o.data = .seq its n ∧ its.size ≤ sizeLine ∧ its.toList = us := by
  unfold isSq at h
  split at h
  · rename_i c od its m sl q
    split at h
    · rename_i hc
      obtain ⟨h1, h2, h3⟩ := hc
      cases h
      exact ⟨_, its, m, q, congrArg Value.type h1, h3, rfl, h2, rfl⟩
    · cases h
  · cases h
def isLs (K : PySem.W.Frag) (a : Addr) : Option (List Value) := match K.lookup a with
  | some ⟨.type c, none, .seq its _, sl⟩ => if c = "list" ∧ its.size ≤ sizeLine ∧ sl = #[] then some its.toList else none
  | _ => none
theorem isLs_ok {K : PySem.W.Frag} {a : Addr} {us : List Value} (h : isLs K a = some us) : ∃ n, K.lookup a = some { cls := .type "list", data := .seq us.toArray n } ∧ us.length ≤ sizeLine := by
  unfold isLs at h
  split at h
  · rename_i c its m sl q
    split at h
    · rename_i hc
      obtain ⟨h1, h2, h3⟩ := hc
      cases h
      subst h1
      subst h3
      exact ⟨m, by rw [q], by simpa using h2⟩
    · cases h
  · cases h
mutual
def gB (K : PySem.W.Frag) : D → Value → Bool
  | .non, .none => true
  | .bl b, .bool c => decide (b = c)
  | .int i, .int j _ => decide (i = j)
  | .str x, .str y _ => decide (x = y)
  | .tup ds, .ref a => (match isSq "tuple" false K a with
    | some us => gBs K ds us
    | none => false)
  | .lst ds, .ref a => (match isLs K a with
    | some us => gBs K ds us
    | none => false)
  | _, _ => false
def gBs (K : PySem.W.Frag) : List D → List Value → Bool
  | [], [] => true
  | d :: ds, u :: us => gB K d u && gBs K ds us
  | _, _ => false
end
mutual
theorem gB_ok {K : PySem.W.Frag} : ∀ (d : D) (u : Value), gB K d u = true → ∃ v, RelV v u ∧ ∀ S μ H, Rep K S μ H d v
  | .non, .none, _ => ⟨.non, rfl, fun _ _ _ => rfl⟩
  | .bl b, .bool c, h => ⟨.bl b, congrArg Value.bool (of_decide_eq_true h).symm, fun _ _ _ => rfl⟩
  | .int i, .int j t, h => ⟨.int i, ⟨t, by rw [of_decide_eq_true (show decide (i = j) = true from h)]⟩, fun _ _ _ => rfl⟩
  | .str x, .str y t, h => ⟨.str x, ⟨t, by rw [of_decide_eq_true (show decide (x = y) = true from h)]⟩, fun _ _ _ => rfl⟩
  | .tup ds, .ref a, h => by
    simp only [gB] at h
    split at h
    · rename_i us q
      obtain ⟨o, its, n, k1, k2, k3, k4, k5, k6⟩ := isSq_ok q
      obtain ⟨vs, r, s⟩ := gBs_ok ds us h
      exact ⟨.ref a, rfl, fun S μ H => ⟨a, vs, rfl, .inr ⟨o, its, n, k1, k2, k4, k5, by rw [k6]; exact r⟩, s S μ H⟩⟩
    · cases h
  | .lst ds, .ref a, h => by
    simp only [gB] at h
    split at h
    · rename_i us q
      obtain ⟨n, k1, k2⟩ := isLs_ok q
      obtain ⟨vs, r, s⟩ := gBs_ok ds us h
      exact ⟨.ref a, rfl, fun S μ H => ⟨a, vs, rfl, .inr ⟨us, n, k1, k2, r⟩, s S μ H⟩⟩
    · cases h
  | .ref _, u, h => by simp [gB] at h
theorem gBs_ok {K : PySem.W.Frag} : ∀ (ds : List D) (us : List Value), gBs K ds us = true → ∃ vs, Vals vs us ∧ ∀ S μ H, Reps K S μ H ds vs
  | [], [], _ => ⟨[], .nil, fun _ _ _ => rfl⟩
  | d :: ds, u :: us, h => by
    obtain ⟨h1, h2⟩ := Bool.and_eq_true_iff.mp (show (gB K d u && gBs K ds us) = true from h)
    obtain ⟨v, r, k⟩ := gB_ok d u h1
    obtain ⟨vs, rs, ks⟩ := gBs_ok ds us h2
    exact ⟨v :: vs, .cons r rs, fun S μ H => ⟨v, vs, rfl, k S μ H, ks S μ H⟩⟩
  | [], _ :: _, h => by simp [gBs] at h
  | _ :: _, [], h => by simp [gBs] at h
end
def gbx (K : PySem.W.Frag) (x : Str) (d : D) : Bool := match PySem.W.nsIn K mainGlobals x with
  | some (some u) => gB K d u
  | _ => false
theorem glob_of {K : PySem.W.Frag} {h : Heap} {mg : Str → Option Value} (X : K.In h) (G : h.Ns mainGlobals mg) {x : Str} {d : D} (q : gbx K x d = true) : GlobOk K mg x d := by
  unfold gbx at q
  split at q
  · rename_i u e
    obtain ⟨v, r, s⟩ := gB_ok d u q
    exact ⟨u, v, PySem.W.mg_of X G e, r, s⟩
  · cases q
def DefI.he (d : DefI) : He.DefD := ⟨(d.name, none), d.name, d.name, d.params, d.body, d.scope, [], []⟩
/-- a def binds its arguments by place -/
def BindN (d : DefI) : Prop := ∀ (kV doc pm : Value) (an : Option Addr) (cdv ct : Value) (us : List Value), us.length = d.ps.length → bindArgs (PySem.W.fnOf d.name d.name d.params d.body d.scope .none kV doc pm an cdv ct) ⟨us, []⟩ = pure (d.ps.zip us)
theorem topOk_of {K : PySem.W.Frag} {h : Heap} {w : World} {mg : Str → Option Value} {Ds : List DefI} {fa : List He.Fa} {ex : PySem.W.Frag → Bool} (X : K.In h) (G : h.Ns mainGlobals mg) (c : He.SaysX fa (Ds.map DefI.he) [] [] ex w h K)
    (hfa : ∀ d ∈ Ds, He.Fa.glo d.name ∈ fa) (hb : ∀ (i : Nat) (d : DefI), Ds[i]? = some d → BindN d) (hs : ∀ (i : Nat) (d : DefI), Ds[i]? = some d → FnScope d.N d.ps d.scope ∧ d.fn.ar = d.ps.length ∧ d.fn.sl = d.N.length) : TopOk K mg Ds := by
  refine ⟨fun i d hi => ?_, hs⟩
  have hm : d ∈ Ds := List.mem_of_getElem? hi
  obtain ⟨fd, F⟩ := He.SaysD.defs c.t.d (d := d.he) (List.mem_map.mpr ⟨d, hm, rfl⟩)
  have F' : FunD K d.name d.name d.params d.body d.scope [] [] (He.ga K d.name) fd := F
  exact ⟨He.ga K d.name, fd, He.glo_ok X G (He.SaysD.facts c.t.d (hfa d hm)), F', F'.bindsN (hb i d hi)⟩
/-- the law's def, by its place -/
theorem law_fd {K : PySem.W.Frag} {mg : Str → Option Value} {Ds : List DefI} {i : Nat} {d : DefI} {x : Str} {f : Addr} (T : TopOk K mg Ds) (hi : Ds[i]? = some d) (hp : d.ps = [x]) (hb : BindN d) (hm : mg d.name = some (.ref f)) :
    ∃ fd, FunD K d.name d.name d.params d.body d.scope [] [] f fd ∧ ∀ (s : Shared) (v : Value), BindsTo s fd ⟨[v], []⟩ [(x, v)] := by
  obtain ⟨f', fd, h1, F, _⟩ := T.dfn i d hi
  cases hm.symm.trans h1
  refine ⟨fd, F, fun s v => ?_⟩
  have b := F.bindsA (ps := [x]) (fun kV doc pm an cdv ct us hl => by
    have z := hb kV doc pm an cdv ct us (by rw [hp]; exact hl)
    rw [hp] at z
    exact z) s [v] rfl
  exact b
end Iv

set_option Elab.async false
set_option linter.all false
set_option maxRecDepth 100000
set_option maxHeartbeats 4000000
namespace Iv
open PySem
variable {T : List Fn} {w n : Nat}
theorem run_rt {f : Nat} {fn : Fn} {ds : List D} {S S1 : Sto} {d : D} (h : T[f]? = some fn) (hl : ds.length = fn.ar) (e : exs (run T w n) w fn.body (ds.map some ++ List.replicate (fn.sl - fn.ar) none) S = some (.rt d, S1)) : run T w (n + 1) f ds S = some (d, leave S.length d S1) := by
  simp only [run, h, hl, if_true, e]
theorem run_nx {f : Nat} {fn : Fn} {ds : List D} {S S1 : Sto} {ρ : Env} (h : T[f]? = some fn) (hl : ds.length = fn.ar) (e : exs (run T w n) w fn.body (ds.map some ++ List.replicate (fn.sl - fn.ar) none) S = some (.nx ρ, S1)) : run T w (n + 1) f ds S = some (.non, leave S.length .non S1) := by
  simp only [run, h, hl, if_true, e]
theorem op_add {i j : Int} : opD .Add (.int i) (.int j) = some (.int (i + j)) := rfl
theorem op_sub {i j : Int} : opD .Sub (.int i) (.int j) = some (.int (i - j)) := rfl
theorem pw_small2 {i : Int} (h : i.natAbs < 2 ^ 200) : i.natAbs < 2 ^ 8000 := Nat.lt_of_lt_of_le h (Nat.pow_le_pow_right (by decide) (by decide))
theorem op_mul {i j : Int} (h1 : i.natAbs < 2 ^ 63) : opD .Mult (.int i) (.int j) = some (.int (i * j)) := by
  show (if _ then _ else _) = _
  rw [if_pos (by rw [decide_eq_true h1]; rfl)]
theorem op_div {i j : Int} (h1 : 0 < j) (h2 : j.natAbs < 2 ^ 200) : opD .FloorDiv (.int i) (.int j) = some (.int (i / j)) := by
  show (if _ then _ else _) = _
  rw [if_pos (by rw [decide_eq_true h1, decide_eq_true (pw_small2 h2)]; rfl)]
theorem op_mod {i j : Int} (h1 : 0 < j) : opD .Mod (.int i) (.int j) = some (.int (i % j)) := by
  show (if _ then _ else _) = _
  rw [if_pos (decide_eq_true h1)]
theorem op_pow {i j : Int} (h1 : 0 ≤ j) (h2 : j ≤ 1000) (h3 : i.natAbs < 2 ^ 64) : opD .Pow (.int i) (.int j) = some (.int (i ^ j.toNat)) := by
  show (if _ then _ else _) = _
  rw [if_pos (by rw [decide_eq_true h1, decide_eq_true h2, decide_eq_true h3]; rfl)]
theorem pures_ints : ∀ c : List Int, D.pures (c.map D.int) = true
  | [] => rfl
  | _ :: c => by simp [D.pures, D.pure, pures_ints c]
theorem pys_ints : ∀ c : List Int, D.pys (c.map D.int) = c.map PyData.int
  | [] => rfl
  | _ :: c => by simp [D.pys, D.py, pys_ints c]
theorem lay_ints : ∀ c : List Int, PyData.canLayAll0 (c.map PyData.int) = true
  | [] => rfl
  | _ :: c => by simp [PyData.canLayAll0, PyData.canLay0, lay_ints c]
theorem depth_ints : ∀ c : List Int, PyData.depthAll (c.map PyData.int) = 0
  | [] => rfl
  | _ :: c => by simp [PyData.depthAll, PyData.depth, depth_ints c]
theorem ok_ints (c : List Int) : D.ok (.lst (c.map D.int)) = true := by
  simp [D.ok, D.pure, D.py, PyData.canLay0, PyData.depth, pures_ints, pys_ints, lay_ints, depth_ints]
theorem ok_nil : D.ok (.lst []) = true := rfl
theorem eqv_nil (xs : List D) : D.eqv (.lst xs) (.lst []) = xs.isEmpty := by
  cases xs <;> simp [D.eqv, D.py, D.pys, PyData.eqv, PyData.eqvAll]

/-- the shelf: the script's cells, how many were read, what is held -/
def shelf (c : List Int) (t h : Int) : List D := [.lst (c.map D.int), .int t, .int h]
/-- the last part: mixed -/
def mixB (c1 p1 m2 p2 k m1 p3 : Int) : Ss := (.cons (.asg (.n 4) (.op .Mod (.bi .int (.cons (.op .Pow (.op .Add (.op .Add (.op .Mod (.bi .int (.cons (.v 3) .nil)) (.c (.int p1))) (.op .Mult (.c (.int m2)) (.v 2))) (.c (.int c1))) (.c (.int 5))) .nil)) (.c (.int p2)))) (.cons (.asg (.n 4) (.op .Mod (.bi .int (.cons (.op .Pow (.op .Add (.op .Add (.op .Mult (.v 4) (.op .Add (.op .Mult (.c (.int 2)) (.v 2)) (.c (.int k)))) (.op .Mult (.op .Mult (.c (.int m1)) (.v 2)) (.v 2))) (.c (.int m2))) (.c (.int 3))) .nil)) (.c (.int p3)))) (.cons (.ret (.op .Mod (.bi .int (.cons (.op .FloorDiv (.v 4) (.c (.int 64))) .nil)) (.v 1))) .nil)))
def heldB : Ss := (.cons (.put (.v 0) (.c (.int 2)) (.op .FloorDiv (.bi .int (.cons (.v 5) .nil)) (.v 1))) (.cons (.ret (.op .Mod (.bi .int (.cons (.v 5) .nil)) (.v 1))) .nil))
def bigB : St := (.ifs (.and (.cmp .Lt (.v 2) (.bi .len (.cons (.ix (.v 0) (.c (.int 0))) .nil))) (.cmp .GtE (.bi .abs (.cons (.v 3) .nil)) (.op .Pow (.c (.int 10)) (.c (.int 18))))) (.cons (.asg (.n 5) (.op .Add (.op .Mult (.c (.int 2)) (.op .Sub (.bi .abs (.cons (.v 3) .nil)) (.op .Pow (.c (.int 10)) (.c (.int 18))))) (.bi .int (.cons (.cmp .Lt (.v 3) (.c (.int 0))) .nil)))) heldB) .nil)
def cellB : St := (.ifs (.cmp .NotEq (.ix (.v 0) (.c (.int 0))) (.lst .nil)) (.cons (.asg (.n 3) (.ix (.ix (.v 0) (.c (.int 0))) (.op .Mod (.bi .int (.cons (.v 2) .nil)) (.bi .len (.cons (.ix (.v 0) (.c (.int 0))) .nil))))) .nil) .nil)
theorem sh0 (c : List Int) (t h : Int) : ixD (.lst (shelf c t h)) (.int 0) = some (.lst (c.map D.int)) := rfl
theorem sh1 (c : List Int) (t h : Int) : ixD (.lst (shelf c t h)) (.int 1) = some (.int t) := rfl
theorem sh2 (c : List Int) (t h : Int) : ixD (.lst (shelf c t h)) (.int 2) = some (.int h) := rfl
def reachB (m1 c1 p1 m2 p2 k p3 : Int) : Ss := (.cons (.ifs (.cmp .Gt (.ix (.v 0) (.c (.int 2))) (.c (.int 0))) (.cons (.asg (.n 5) (.ix (.v 0) (.c (.int 2)))) heldB) .nil) (.cons (.asg (.n 2) (.ix (.v 0) (.c (.int 1)))) (.cons (.put (.v 0) (.c (.int 1)) (.op .Add (.v 2) (.c (.int 1)))) (.cons (.asg (.n 3) (.op .Add (.op .Mult (.c (.int m1)) (.v 2)) (.c (.int c1)))) (.cons cellB (.cons bigB (mixB c1 p1 m2 p2 k m1 p3)))))))
/-- the numbers that a drawing is made with -/
structure NumsOk (m1 c1 p1 m2 p2 k p3 : Int) : Prop where
  h1 : 0 ≤ m1 ∧ m1 < 2 ^ 20
  h2 : 0 ≤ c1 ∧ c1 < 2 ^ 20
  h3 : 0 < p1 ∧ p1 < 2 ^ 32
  h4 : 0 ≤ m2 ∧ m2 < 2 ^ 20
  h5 : 0 < p2 ∧ p2 < 2 ^ 32
  h6 : 0 ≤ k ∧ k < 2 ^ 20
  h7 : 0 < p3 ∧ p3 < 2 ^ 32
theorem atI_nat {α : Type} {xs : List α} {i : Nat} (h : i < xs.length) : L2.atI xs (i : Int) = xs[i]? := by
  unfold L2.atI L2.ixN
  rw [if_pos (Int.natCast_nonneg i), if_pos (by omega)]
  rfl
section
variable {F : CF} {c : List Int} {R : Sto} {ρ : Env}
/-- what is held is used up -/
theorem held_ok {many t h x : Int} {a2 a3 a4 : Option D} (hm : 0 < many) (hmb : many < 2 ^ 63) :
    exs F w heldB [some (.ref 0), some (.int many), a2, a3, a4, some (.int x)] (some (shelf c t h) :: R) = some (.rt (.int (x % many)), some (shelf c t (x / many)) :: R) := by
  have e1 : opD .FloorDiv (.int x) (.int many) = some (.int (x / many)) := op_div hm (by omega)
  have e2 : opD .Mod (.int x) (.int many) = some (.int (x % many)) := op_mod hm
  simp [heldB, exs, ex, ev, evs, see, seeAll, biD, e1, e2, shelf, L2.ixN, D.pure]
theorem mul_b {a b A B : Int} (h1 : 0 ≤ a) (h2 : a ≤ A) (h3 : 0 ≤ b) (h4 : b ≤ B) : 0 ≤ a * b ∧ a * b ≤ A * B :=
  ⟨Int.mul_nonneg h1 h3, Int.mul_le_mul h2 h4 h3 (by omega)⟩
theorem mix_ok {m1 c1 p1 m2 p2 k p3 many t cell : Int} {a4 a5 : Option D} {S : Sto} (K : NumsOk m1 c1 p1 m2 p2 k p3) (hm : 0 < many) (t0 : 0 ≤ t) (t1 : t ≤ 1000000) :
    ∃ r : Int, 0 ≤ r ∧ r < many ∧ exs F w (mixB c1 p1 m2 p2 k m1 p3) [some (.ref 0), some (.int many), some (.int t), some (.int cell), a4, a5] S = some (.rt (.int r), S) := by
  obtain ⟨⟨k1, k2⟩, ⟨k3, k4⟩, ⟨k5, k6⟩, ⟨k7, k8⟩, ⟨k9, k10⟩, ⟨k11, k12⟩, ⟨k13, k14⟩⟩ := K
  have b1 := Int.emod_nonneg cell (show p1 ≠ 0 by omega)
  have b2 := Int.emod_lt_of_pos cell k5
  obtain ⟨b3, b4⟩ := mul_b k7 (Int.le_of_lt k8) t0 t1
  generalize hx : cell % p1 + m2 * t + c1 = x
  have hx1 : x.natAbs < 2 ^ 64 := by omega
  generalize hy : x ^ 5 % p2 = y
  have b5 : 0 ≤ y := hy ▸ Int.emod_nonneg _ (show p2 ≠ 0 by omega)
  have b6 : y < p2 := hy ▸ Int.emod_lt_of_pos _ k9
  obtain ⟨b7, b8⟩ := mul_b b5 (show y ≤ 2 ^ 32 by omega) (show 0 ≤ 2 * t + k by omega) (show 2 * t + k ≤ 2000000 + 2 ^ 20 by omega)
  obtain ⟨b9, b10⟩ := mul_b k1 (Int.le_of_lt k2) t0 t1
  obtain ⟨b11, b12⟩ := mul_b b9 b10 t0 t1
  generalize hz : y * (2 * t + k) + m1 * t * t + m2 = z
  have hz1 : z.natAbs < 2 ^ 64 := by omega
  have e1 : opD .Mod (.int cell) (.int p1) = some (.int (cell % p1)) := op_mod k5
  have e2 : opD .Mult (.int m2) (.int t) = some (.int (m2 * t)) := op_mul (by omega)
  have e3 : opD .Pow (.int x) (.int 5) = some (.int (x ^ 5)) := op_pow (by decide) (by decide) hx1
  have e4 : opD .Mod (.int (x ^ 5)) (.int p2) = some (.int y) := by rw [op_mod k9, hy]
  have e5 : opD .Mult (.int y) (.int (2 * t + k)) = some (.int (y * (2 * t + k))) := op_mul (by omega)
  have e6 : opD .Mult (.int 2) (.int t) = some (.int (2 * t)) := op_mul (by decide)
  have e7 : opD .Mult (.int m1) (.int t) = some (.int (m1 * t)) := op_mul (by omega)
  have e8 : opD .Mult (.int (m1 * t)) (.int t) = some (.int (m1 * t * t)) := op_mul (by omega)
  have e9 : opD .Pow (.int z) (.int 3) = some (.int (z ^ 3)) := op_pow (by decide) (by decide) hz1
  have e10 : opD .Mod (.int (z ^ 3)) (.int p3) = some (.int (z ^ 3 % p3)) := op_mod k13
  have e11 : opD .FloorDiv (.int (z ^ 3 % p3)) (.int 64) = some (.int (z ^ 3 % p3 / 64)) := op_div (by decide) (by decide)
  have e12 : opD .Mod (.int (z ^ 3 % p3 / 64)) (.int many) = some (.int (z ^ 3 % p3 / 64 % many)) := op_mod hm
  refine ⟨z ^ 3 % p3 / 64 % many, Int.emod_nonneg _ (by omega), Int.emod_lt_of_pos _ hm, ?_⟩
  simp [mixB, exs, ex, ev, evs, see, seeAll, biD, e1, e2, op_add, hx, e3, e4, e5, e6, e7, e8, hz, e9, e10, e11, e12, setT]
/-- a cell is chosen -/
theorem cell_ok {many t t2 x : Int} {a4 a5 : Option D} {h : Int} (t0 : 0 ≤ t) :
    ∃ y : Int, ex F w cellB [some (.ref 0), some (.int many), some (.int t), some (.int x), a4, a5] (some (shelf c t2 h) :: R) = some (.nx [some (.ref 0), some (.int many), some (.int t), some (.int y), a4, a5], some (shelf c t2 h) :: R) := by
  have z1 : cmpD .NotEq (.lst (c.map D.int)) (.lst []) = some (!c.isEmpty) := by
    show (if _ then _ else _) = _
    rw [if_pos (by rw [ok_ints, ok_nil]; rfl), eqv_nil]
    cases c <;> rfl
  cases hc : c.isEmpty with
  | true =>
    rw [hc] at z1
    exact ⟨x, by simp [cellB, exs, ex, ev, evs, see, sh0, small, z1]⟩
  | false =>
    rw [hc] at z1
    have hl : 0 < c.length := by cases c with | nil => cases hc | cons a r => simp
    have q1 := Int.emod_nonneg t (show (c.length : Int) ≠ 0 by omega)
    have q2 := Int.emod_lt_of_pos t (show (0 : Int) < c.length by omega)
    obtain ⟨j, hj⟩ := Int.eq_ofNat_of_zero_le q1
    have hj2 : j < c.length := by omega
    have z2 : opD .Mod (.int t) (.int (c.length : Int)) = some (.int (j : Int)) := by rw [op_mod (by omega), hj]
    have z3 : ixD (.lst (c.map D.int)) (.int (j : Int)) = some (.int c[j]) := by
      show L2.atI (c.map D.int) (j : Int) = _
      rw [atI_nat (by simpa using hj2), List.getElem?_map, List.getElem?_eq_getElem hj2]
      rfl
    have z6 : biD .len [.lst (c.map D.int)] = some (.int c.length) := by simp [biD]
    have z7 : biD .int [.int t] = some (.int t) := rfl
    exact ⟨c[j], by simp [cellB, exs, ex, ev, evs, see, seeAll, z6, z7, sh0, z1, z2, z3, setT, small]⟩
/-- a great cell is held, or nothing is done -/
theorem big_ok {many t t2 x h : Int} {a4 a5 : Option D} (t0 : 0 ≤ t) (hm : 0 < many) (hmb : many < 2 ^ 63) :
    (∃ y : Int, 0 ≤ y ∧ ex F w bigB [some (.ref 0), some (.int many), some (.int t), some (.int x), a4, a5] (some (shelf c t2 h) :: R) = some (.rt (.int (y % many)), some (shelf c t2 (y / many)) :: R)) ∨
    ex F w bigB [some (.ref 0), some (.int many), some (.int t), some (.int x), a4, a5] (some (shelf c t2 h) :: R) = some (.nx [some (.ref 0), some (.int many), some (.int t), some (.int x), a4, a5], some (shelf c t2 h) :: R) := by
  have z1 : opD .Pow (.int 10) (.int 18) = some (.int (10 ^ 18)) := op_pow (by decide) (by decide) (by decide)
  have z5 : (if x < 0 then -x else x) = (x.natAbs : Int) := by split <;> omega
  by_cases hc : t < (c.length : Int)
  · by_cases hx : (10 : Int) ^ 18 ≤ (x.natAbs : Int)
    · refine .inl ⟨2 * ((x.natAbs : Int) - 10 ^ 18) + (if x < 0 then 1 else 0), by split <;> omega, ?_⟩
      have z2 : opD .Mult (.int 2) (.int ((x.natAbs : Int) - 10 ^ 18)) = some (.int (2 * ((x.natAbs : Int) - 10 ^ 18))) := op_mul (by decide)
      have z3 : biD .int [.bl (decide (x < 0))] = some (.int (if x < 0 then 1 else 0)) := by by_cases q : x < 0 <;> simp [biD, q]
      have z4 : biD .abs [.int x] = some (.int (x.natAbs : Int)) := by rw [← z5]; rfl
      have z6 : biD .len [.lst (c.map D.int)] = some (.int c.length) := by simp [biD]
      have z7 : cmpD .Lt (.int t) (.int c.length) = some true := by simp [cmpD, hc]
      have z8 : cmpD .GtE (.int (x.natAbs : Int)) (.int (10 ^ 18)) = some true := congrArg some (decide_eq_true hx)
      have z9 : cmpD .Lt (.int x) (.int 0) = some (decide (x < 0)) := rfl
      simp only [bigB, exs, ex, ev, evs, see, seeAll, List.getElem?_cons_zero, List.getElem?_cons_succ, sh0, z6, z7, z4, z1, z8, z9, z2, z3, op_sub, op_add, setT, List.set_cons_succ, List.set_cons_zero, held_ok hm hmb]
    · refine .inr ?_
      have z4 : biD .abs [.int x] = some (.int (x.natAbs : Int)) := by rw [← z5]; rfl
      have z6 : biD .len [.lst (c.map D.int)] = some (.int c.length) := by simp [biD]
      have z7 : cmpD .Lt (.int t) (.int c.length) = some true := by simp [cmpD, hc]
      have z8 : cmpD .GtE (.int (x.natAbs : Int)) (.int (10 ^ 18)) = some false := congrArg some (decide_eq_false hx)
      simp only [bigB, exs, ex, ev, evs, see, seeAll, List.getElem?_cons_zero, List.getElem?_cons_succ, sh0, z6, z7, z4, z1, z8]
  · refine .inr ?_
    have z6 : biD .len [.lst (c.map D.int)] = some (.int c.length) := by simp [biD]
    have z7 : cmpD .Lt (.int t) (.int c.length) = some false := by simp [cmpD, hc]
    simp only [bigB, exs, ex, ev, evs, see, seeAll, List.getElem?_cons_zero, List.getElem?_cons_succ, sh0, z6, z7]
end
/-- a drawing: a number below many -/
theorem reach_ok {m1 c1 p1 m2 p2 k p3 : Int} {f : Nat} (hT : T[f]? = some ⟨2, 6, reachB m1 c1 p1 m2 p2 k p3⟩) (K : NumsOk m1 c1 p1 m2 p2 k p3) {many t h : Int} {c : List Int} {R : Sto} (hm : 0 < many) (hmb : many < 2 ^ 63) (t0 : 0 ≤ t) (t1 : t ≤ 1000000) (h0 : 0 ≤ h) :
    ∃ r t' h' : Int, 0 ≤ r ∧ r < many ∧ t ≤ t' ∧ t' ≤ t + 1 ∧ 0 ≤ h' ∧ run T w (n + 1) f [.ref 0, .int many] (some (shelf c t h) :: R) = some (.int r, some (shelf c t' h') :: R) := by
  have fin : ∀ {r t' h' : Int}, exs (run T w n) w (reachB m1 c1 p1 m2 p2 k p3) [some (.ref 0), some (.int many), none, none, none, none] (some (shelf c t h) :: R) = some (.rt (.int r), some (shelf c t' h') :: R) →
      run T w (n + 1) f [.ref 0, .int many] (some (shelf c t h) :: R) = some (.int r, some (shelf c t' h') :: R) := fun e => by
    rw [run_rt hT rfl e]
    simp [leave, D.pure]
  by_cases hh : 0 < h
  · refine ⟨h % many, t, h / many, Int.emod_nonneg _ (by omega), Int.emod_lt_of_pos _ hm, by omega, by omega, Int.ediv_nonneg h0 (by omega), fin ?_⟩
    have z1 : cmpD .Gt (.int h) (.int 0) = some true := by simp [cmpD, hh]
    simp only [reachB, exs, ex, ev, evs, see, seeAll, List.getElem?_cons_zero, List.getElem?_cons_succ, sh2, z1, setT, List.set_cons_succ, List.set_cons_zero, held_ok hm hmb]
  · have z1 : cmpD .Gt (.int h) (.int 0) = some false := by simp [cmpD, hh]
    have z2 : opD .Mult (.int m1) (.int t) = some (.int (m1 * t)) := op_mul (by have := K.h1; omega)
    have z3 : L2.ixN (shelf c t h).length 1 = some 1 := rfl
    have z4 : (shelf c t h).set 1 (.int (t + 1)) = shelf c (t + 1) h := rfl
    obtain ⟨y, hy⟩ := cell_ok (F := run T w n) (w := w) (c := c) (R := R) (many := many) (t := t) (t2 := t + 1) (x := m1 * t + c1) (a4 := none) (a5 := none) (h := h) t0
    have base : ∀ {o}, exs (run T w n) w (.cons cellB (.cons bigB (mixB c1 p1 m2 p2 k m1 p3))) [some (.ref 0), some (.int many), some (.int t), some (.int (m1 * t + c1)), none, none] (some (shelf c (t + 1) h) :: R) = o →
        exs (run T w n) w (reachB m1 c1 p1 m2 p2 k p3) [some (.ref 0), some (.int many), none, none, none, none] (some (shelf c t h) :: R) = o := fun e => by
      rw [← e]
      simp only [reachB, exs, ex, ev, evs, see, seeAll, List.getElem?_cons_zero, List.getElem?_cons_succ, sh1, sh2, z1, z2, op_add, z3, z4, setT, List.set_cons_succ, List.set_cons_zero, D.pure, if_true]
    rcases big_ok (F := run T w n) (w := w) (c := c) (R := R) (t2 := t + 1) (x := y) (a4 := none) (a5 := none) (h := h) t0 hm hmb with ⟨z, q1, q2⟩ | q2
    · exact ⟨z % many, t + 1, z / many, Int.emod_nonneg _ (by omega), Int.emod_lt_of_pos _ hm, by omega, by omega, Int.ediv_nonneg q1 (by omega), fin (base (by simp only [exs, hy, q2]))⟩
    · obtain ⟨r, r0, r1, q3⟩ := mix_ok (F := run T w n) (w := w) (cell := y) (a4 := none) (a5 := none) (S := some (shelf c (t + 1) h) :: R) K hm t0 t1
      exact ⟨r, t + 1, h, r0, r1, by omega, by omega, h0, fin (base (by simp only [exs, hy, q2, q3]))⟩
end Iv

set_option Elab.async false
set_option linter.all false
set_option maxRecDepth 100000
set_option maxHeartbeats 4000000
namespace Iv
open PySem
variable {T : List Fn} {w n : Nat}
theorem leave_same {S S' : Sto} {d : D} (h : S'.length = S.length) : leave S.length d S' = S' := by
  unfold leave
  split
  · exact List.take_of_length_le (by omega)
  · rfl
/-- a def that hands back, its places as before -/
theorem run_rts {f : Nat} {fn : Fn} {ds : List D} {S S1 : Sto} {d : D} (h : T[f]? = some fn) (hl : ds.length = fn.ar) (hs : S1.length = S.length) (e : exs (run T w n) w fn.body (ds.map some ++ List.replicate (fn.sl - fn.ar) none) S = some (.rt d, S1)) : run T w (n + 1) f ds S = some (d, S1) := by
  rw [run_rt h hl e, leave_same hs]
theorem run_nxs {f : Nat} {fn : Fn} {ds : List D} {S S1 : Sto} {ρ : Env} (h : T[f]? = some fn) (hl : ds.length = fn.ar) (hs : S1.length = S.length) (e : exs (run T w n) w fn.body (ds.map some ++ List.replicate (fn.sl - fn.ar) none) S = some (.nx ρ, S1)) : run T w (n + 1) f ds S = some (.non, S1) := by
  rw [run_nx h hl e, leave_same hs]

inductive Wr where
  | nm (x : Str) | of (x : Str) (b : Wr) | to (a b : Wr)
def Wr.size : Wr → Nat
  | .nm _ => 1
  | .of _ b => b.size + 1
  | .to a b => a.size + b.size + 1
def Wr.dp : Wr → Nat
  | .nm _ => 0
  | .of _ b => b.dp + 1
  | .to a b => max a.dp b.dp + 1
def Wr.names : Wr → List Str
  | .nm x => [x]
  | .of x b => x :: b.names
  | .to a b => a.names ++ b.names
def Wr.enc : Wr → D
  | .nm x => .str x
  | .of x b => .tup [.str "of", .str x, b.enc]
  | .to a b => .tup [.str "to", a.enc, b.enc]
def Wr.encL : Wr → D
  | .nm x => .str x
  | .of x b => .lst [.str "of", .str x, b.encL]
  | .to a b => .lst [.str "to", a.encL, b.encL]
theorem Wr.pure_enc : ∀ w : Wr, w.enc.pure = true
  | .nm _ => rfl
  | .of _ b => by simp [Wr.enc, D.pure, D.pures, b.pure_enc]
  | .to a b => by simp [Wr.enc, D.pure, D.pures, a.pure_enc, b.pure_enc]
theorem Wr.size_pos : ∀ w : Wr, 0 < w.size
  | .nm _ => Nat.zero_lt_one
  | .of _ b => Nat.succ_pos _
  | .to _ _ => Nat.succ_pos _

/-- the first of the drawing's numbers -/
structure Dr (T : List Fn) (w f : Nat) (c : List Int) : Prop where
  ok : ∀ (n : Nat) (R : Sto) (many t h : Int), 0 < many → many < 2 ^ 63 → 0 ≤ t → t ≤ 1000000 → 0 ≤ h →
    ∃ r t' h' : Int, 0 ≤ r ∧ r < many ∧ t ≤ t' ∧ t' ≤ t + 1 ∧ 0 ≤ h' ∧ run T w (n + 1) f [.ref 0, .int many] (some (shelf c t h) :: R) = some (.int r, some (shelf c t' h') :: R)
theorem dr_of {m1 c1 p1 m2 p2 k p3 : Int} {f : Nat} {c : List Int} (hT : T[f]? = some ⟨2, 6, reachB m1 c1 p1 m2 p2 k p3⟩) (K : NumsOk m1 c1 p1 m2 p2 k p3) : Dr T w f c :=
  ⟨fun n R many t h h1 h2 h3 h4 h5 => reach_ok hT K h1 h2 h3 h4 h5⟩
def oneB (rc : Nat) : Ss := (.cons (.ret (.ix (.v 1) (.call rc (.cons (.v 0) (.cons (.bi .len (.cons (.v 1) .nil)) .nil))))) .nil)
theorem len_lst (xs : List D) : biD .len [.lst xs] = some (.int xs.length) := rfl
theorem len_tup (xs : List D) : biD .len [.tup xs] = some (.int xs.length) := rfl
theorem ix_lst (xs : List D) (i : Int) : ixD (.lst xs) (.int i) = L2.atI xs i := rfl
theorem ix_tup (xs : List D) (i : Int) : ixD (.tup xs) (.int i) = L2.atI xs i := rfl
/-- one of some -/
theorem one_ok {rc f : Nat} {c : List Int} (D0 : Dr T w rc c) (hT : T[f]? = some ⟨2, 2, oneB rc⟩) {xs : List D} (hx : xs ≠ []) (hl : xs.length < 2 ^ 60) {R : Sto} {t h : Int} (t0 : 0 ≤ t) (t1 : t ≤ 1000000) (h0 : 0 ≤ h) :
    ∃ (j : Nat) (x : D) (t' h' : Int), xs[j]? = some x ∧ t ≤ t' ∧ t' ≤ t + 1 ∧ 0 ≤ h' ∧ run T w (n + 2) f [.ref 0, .lst xs] (some (shelf c t h) :: R) = some (x, some (shelf c t' h') :: R) := by
  have hp : 0 < xs.length := List.length_pos_iff.mpr hx
  obtain ⟨r, t', h', r0, r1, q1, q2, q3, e⟩ := D0.ok n R xs.length t h (by omega) (by omega) t0 t1 h0
  obtain ⟨j, rfl⟩ := Int.eq_ofNat_of_zero_le r0
  have hj : j < xs.length := by omega
  refine ⟨j, xs[j], t', h', List.getElem?_eq_getElem hj, q1, q2, q3, run_rts hT rfl rfl ?_⟩
  have z : ixD (.lst xs) (.int (j : Int)) = some xs[j] := by rw [ix_lst, atI_nat hj, List.getElem?_eq_getElem hj]
  simp [oneB, exs, ex, ev, evs, see, seeAll, len_lst, e, z]
theorem one_str {rc f : Nat} {c : List Int} (D0 : Dr T w rc c) (hT : T[f]? = some ⟨2, 2, oneB rc⟩) {xs : List Str} (hx : xs ≠ []) (hl : xs.length < 2 ^ 60) {R : Sto} {t h : Int} (t0 : 0 ≤ t) (t1 : t ≤ 1000000) (h0 : 0 ≤ h) :
    ∃ (x : Str) (t' h' : Int), x ∈ xs ∧ t ≤ t' ∧ t' ≤ t + 1 ∧ 0 ≤ h' ∧ run T w (n + 2) f [.ref 0, .lst (xs.map D.str)] (some (shelf c t h) :: R) = some (.str x, some (shelf c t' h') :: R) := by
  obtain ⟨j, d, t', h', hj, q⟩ := one_ok (n := n) D0 hT (xs := xs.map D.str) (by simpa using hx) (by simpa using hl) (R := R) t0 t1 h0
  rw [List.getElem?_map] at hj
  cases hx2 : xs[j]? with
  | none => rw [hx2] at hj; cases hj
  | some x =>
    rw [hx2] at hj
    cases hj
    exact ⟨x, t', h', List.mem_of_getElem? hx2, q⟩

def ofS (one f : Nat) : Ss := (.cons (.ret (.tup (.cons (.c (.str "of")) (.cons (.call one (.cons (.v 0) (.cons (.v 2) .nil))) (.cons (.call f (.cons (.v 0) (.cons (.op .Sub (.v 1) (.c (.int 1))) (.cons (.v 2) .nil)))) .nil))))) .nil)
def toS (f : Nat) : Ss := (.cons (.ret (.tup (.cons (.c (.str "to")) (.cons (.call f (.cons (.v 0) (.cons (.v 3) (.cons (.v 2) .nil)))) (.cons (.call f (.cons (.v 0) (.cons (.op .Sub (.op .Sub (.v 1) (.c (.int 1))) (.v 3)) (.cons (.v 2) .nil)))) .nil))))) .nil)
def drawnB (rc one self : Nat) : Ss := (.cons (.ifs (.cmp .Eq (.v 1) (.c (.int 1))) (.cons (.ret (.call one (.cons (.v 0) (.cons (.v 2) .nil)))) .nil) .nil) (.cons (.ifs (.or (.cmp .Eq (.v 1) (.c (.int 2))) (.and (.cmp .Lt (.v 1) (.c (.int 21))) (.cmp .Gt (.call rc (.cons (.v 0) (.cons (.c (.int 3)) .nil))) (.c (.int 0))))) (ofS one self) .nil) (.cons (.asg (.n 3) (.ite (.cmp .Lt (.v 1) (.c (.int 21))) (.op .Add (.c (.int 1)) (.call rc (.cons (.v 0) (.cons (.op .Sub (.v 1) (.c (.int 2))) .nil)))) (.op .Add (.bi .int (.cons (.op .FloorDiv (.v 1) (.c (.int 3))) .nil)) (.call rc (.cons (.v 0) (.cons (.bi .int (.cons (.op .FloorDiv (.v 1) (.c (.int 3))) .nil)) .nil)))))) (toS self))))
def dpb (s : Nat) : Nat := if s < 21 then s else 20 + s / 5
theorem drawn_ok {rc one f : Nat} {c : List Int} (D0 : Dr T w rc c) (h1 : T[one]? = some ⟨2, 2, oneB rc⟩) (hT : T[f]? = some ⟨3, 4, drawnB rc one f⟩) {ns : List Str} (hx : ns ≠ []) (hl : ns.length < 2 ^ 60) {R : Sto} :
    ∀ (s : Nat), 1 ≤ s → ∀ (n : Nat) (t h : Int), dpb s + 2 ≤ n → 0 ≤ t → t + 3 * s ≤ 1000000 → 0 ≤ h →
      ∃ (W : Wr) (t' h' : Int), (∀ x ∈ W.names, x ∈ ns) ∧ W.size ≤ s ∧ W.dp ≤ dpb s ∧ t ≤ t' ∧ t' ≤ t + 3 * s ∧ 0 ≤ h' ∧ run T w n f [.ref 0, .int s, .lst (ns.map D.str)] (some (shelf c t h) :: R) = some (W.enc, some (shelf c t' h') :: R) := by
  intro s
  induction s using Nat.strongRecOn with
  | ind s ih =>
    intro hs n t h hn t0 t1 h0
    obtain ⟨n, rfl⟩ : ∃ m, n = m + 3 := ⟨n - 3, by unfold dpb at hn; split at hn <;> omega⟩
    have sm3 : ∀ a b d : D, small [a, b, d].length = true := fun _ _ _ => rfl
    have d2 : 2 ≤ s → dpb (s - 1) + 1 ≤ dpb s ∨ 21 ≤ s := fun h2 => by
      unfold dpb
      by_cases h : s < 21
      · rw [if_pos h, if_pos (by omega)]; omega
      · exact .inr (by omega)
    have dto : ∀ p, (s < 21 → p + 1 ≤ s) → (21 ≤ s → p + s / 3 ≤ s) → dpb p + 1 ≤ dpb s := fun p a1 a2 => by
      unfold dpb
      split <;> split <;> omega
    -- of
    have hof : ∀ (t h : Int), 2 ≤ s → s < 21 → 0 ≤ t → t + (3 * s - 1) ≤ 1000000 → 0 ≤ h → ∃ (W : Wr) (t' h' : Int), (∀ x ∈ W.names, x ∈ ns) ∧ W.size ≤ s ∧ W.dp ≤ dpb s ∧ t ≤ t' ∧ t' ≤ t + (3 * s - 1) ∧ 0 ≤ h' ∧
        exs (run T w (n + 2)) w (ofS one f) [some (.ref 0), some (.int s), some (.lst (ns.map D.str)), none] (some (shelf c t h) :: R) = some (.rt W.enc, some (shelf c t' h') :: R) := by
      intro t h h2 h21 t0 t1 h0
      obtain ⟨x, t2, h2', q1, q2, q3, q4, q5⟩ := one_str (n := n) D0 h1 hx hl (R := R) t0 (by omega) h0
      obtain ⟨W, t3, h3', p1, p2, p3, p4, p5, p6, p7⟩ := ih (s - 1) (by omega) (by omega) (n + 2) t2 h2' (by have := dto (s - 1) (by omega) (by omega); omega) (by omega) (by omega) q4
      have es : (s : Int) - 1 = ((s - 1 : Nat) : Int) := by omega
      refine ⟨.of x W, t3, h3', fun y hy => ?_, by simp only [Wr.size]; omega, by have := dto (s - 1) (by omega) (by omega); simp only [Wr.dp]; omega, by omega, by omega, p6, ?_⟩
      · rcases List.mem_cons.mp hy with rfl | hy
        · exact q1
        · exact p1 y hy
      · simp [ofS, exs, ex, ev, evs, see, q5, op_sub, es, p7, Wr.enc, small]
    have hto : ∀ (t h : Int) (p : Nat), 1 ≤ p → p + 2 ≤ s → (21 ≤ s → s / 3 ≤ p ∧ p ≤ s - s / 3) → 0 ≤ t → t + 3 * (s - 1) ≤ 1000000 → 0 ≤ h → ∃ (W : Wr) (t' h' : Int), (∀ x ∈ W.names, x ∈ ns) ∧ W.size ≤ s ∧ W.dp ≤ dpb s ∧ t ≤ t' ∧ t' ≤ t + 3 * (s - 1) ∧ 0 ≤ h' ∧
        exs (run T w (n + 2)) w (toS f) [some (.ref 0), some (.int s), some (.lst (ns.map D.str)), some (.int p)] (some (shelf c t h) :: R) = some (.rt W.enc, some (shelf c t' h') :: R) := by
      intro t h p h1 h2 h3 t0 t1 h0
      have e1 := dto p (by omega) (by omega)
      have e2 := dto (s - 1 - p) (by omega) (by omega)
      obtain ⟨W1, t2, h2', q1, q2, q3, q4, q5, q6, q7⟩ := ih p (by omega) h1 (n + 2) t h (by omega) t0 (by omega) h0
      obtain ⟨W2, t3, h3', p1, p2, p3, p4, p5, p6, p7⟩ := ih (s - 1 - p) (by omega) (by omega) (n + 2) t2 h2' (by omega) (by omega) (by omega) q6
      have es : (s : Int) - 1 - (p : Int) = ((s - 1 - p : Nat) : Int) := by omega
      refine ⟨.to W1 W2, t3, h3', fun y hy => ?_, by simp only [Wr.size]; omega, by simp only [Wr.dp]; omega, by omega, by omega, p6, ?_⟩
      · rcases List.mem_append.mp hy with hy | hy
        · exact q1 y hy
        · exact p1 y hy
      · simp [toS, exs, ex, ev, evs, see, q7, op_sub, es, p7, Wr.enc, small]
    have fin : ∀ {W : Wr} {t' h' : Int}, exs (run T w (n + 2)) w (drawnB rc one f) [some (.ref 0), some (.int s), some (.lst (ns.map D.str)), none] (some (shelf c t h) :: R) = some (.rt W.enc, some (shelf c t' h') :: R) →
        run T w (n + 3) f [.ref 0, .int s, .lst (ns.map D.str)] (some (shelf c t h) :: R) = some (W.enc, some (shelf c t' h') :: R) := fun e => run_rts hT rfl rfl e
    by_cases c1 : s = 1
    · subst c1
      obtain ⟨x, t2, h2', q1, q2, q3, q4, q5⟩ := one_str (n := n) D0 h1 hx hl (R := R) t0 (by omega) h0
      refine ⟨.nm x, t2, h2', fun y hy => by rw [List.mem_singleton.mp hy]; exact q1, Nat.le_refl _, Nat.zero_le _, q2, by omega, q4, fin ?_⟩
      simp [drawnB, exs, ex, ev, evs, see, cmpD, q5, Wr.enc]
    have z1 : cmpD .Eq (.int s) (.int 1) = some false := congrArg some (decide_eq_false (by omega))
    by_cases c2 : s = 2
    · have z2 : cmpD .Eq (.int s) (.int 2) = some true := congrArg some (decide_eq_true (by omega))
      obtain ⟨W, t', h', q1, q2, q3, q4, q5, q6, q7⟩ := hof t h (by omega) (by omega) t0 (by omega) h0
      refine ⟨W, t', h', q1, q2, q3, q4, by omega, q6, fin ?_⟩
      simp only [drawnB, exs, ex, ev, see, List.getElem?_cons_zero, List.getElem?_cons_succ, z1, z2, q7]
    have z2 : cmpD .Eq (.int s) (.int 2) = some false := congrArg some (decide_eq_false (by omega))
    by_cases c3 : s < 21
    · have z3 : cmpD .Lt (.int s) (.int 21) = some true := congrArg some (decide_eq_true (by omega))
      obtain ⟨r, t1', h1', r0, r1, q1, q2, q3, q4⟩ := D0.ok (n + 1) R 3 t h (by decide) (by decide) t0 (by omega) h0
      by_cases cr : 0 < r
      · have z4 : cmpD .Gt (.int r) (.int 0) = some true := congrArg some (decide_eq_true cr)
        obtain ⟨W, t', h', p1, p2, p3, p4, p5, p6, p7⟩ := hof t1' h1' (by omega) c3 (by omega) (by omega) q3
        refine ⟨W, t', h', p1, p2, p3, by omega, by omega, p6, fin ?_⟩
        simp only [drawnB, exs, ex, ev, evs, see, List.getElem?_cons_zero, List.getElem?_cons_succ, z1, z2, z3, q4, z4, p7]
      · have z4 : cmpD .Gt (.int r) (.int 0) = some false := congrArg some (decide_eq_false cr)
        obtain ⟨r2, t2', h2', y0, y1, y2, y3, y4, y5⟩ := D0.ok (n + 1) R ((s : Int) - 2) t1' h1' (by omega) (by omega) (by omega) (by omega) q3
        obtain ⟨W, t', h', p1, p2, p3, p4, p5, p6, p7⟩ := hto t2' h2' (1 + r2).toNat (by omega) (by omega) (by omega) (by omega) (by omega) y4
        rw [show (((1 + r2).toNat : Nat) : Int) = 1 + r2 by omega] at p7
        refine ⟨W, t', h', p1, p2, p3, by omega, by omega, p6, fin ?_⟩
        simp only [drawnB, exs, ex, ev, evs, see, List.getElem?_cons_zero, List.getElem?_cons_succ, z1, z2, z3, q4, z4, op_sub, y5, op_add, setT, List.set_cons_succ, List.set_cons_zero, p7]
    · have z3 : cmpD .Lt (.int s) (.int 21) = some false := congrArg some (decide_eq_false (by omega))
      have z5 : opD .FloorDiv (.int s) (.int 3) = some (.int ((s : Int) / 3)) := op_div (by decide) (by decide)
      have z6 : biD .int [.int ((s : Int) / 3)] = some (.int ((s : Int) / 3)) := rfl
      obtain ⟨r2, t2', h2', y0, y1, y2, y3, y4, y5⟩ := D0.ok (n + 1) R ((s : Int) / 3) t h (by omega) (by omega) (by omega) (by omega) h0
      obtain ⟨W, t', h', p1, p2, p3, p4, p5, p6, p7⟩ := hto t2' h2' ((s : Int) / 3 + r2).toNat (by omega) (by omega) (by omega) (by omega) (by omega) y4
      rw [show ((((s : Int) / 3 + r2).toNat : Nat) : Int) = (s : Int) / 3 + r2 by omega] at p7
      refine ⟨W, t', h', p1, p2, p3, by omega, by omega, p6, fin ?_⟩
      simp only [drawnB, exs, ex, ev, evs, see, seeAll, List.getElem?_cons_zero, List.getElem?_cons_succ, z1, z2, z3, z5, z6, y5, op_add, setT, List.set_cons_succ, List.set_cons_zero, p7]
end Iv

set_option Elab.async false
set_option linter.all false
set_option maxRecDepth 100000
set_option maxHeartbeats 4000000
namespace Iv
open PySem
variable {T : List Fn} {w n : Nat}
theorem compRun_map {f : D → Sto → Option (Option D × Sto)} {g : D → D} {S : Sto} : ∀ (xs acc : List D), (∀ d ∈ xs, f d S = some (some (g d), S)) → acc.length + xs.length ≤ 100000 → compRun f xs acc S = some (acc ++ xs.map g, S)
  | [], acc, _, _ => by simp [compRun]
  | d :: ds, acc, h, hl => by
    simp only [List.length_cons] at hl
    have ih := compRun_map (f := f) (g := g) (S := S) ds (acc ++ [g d]) (fun e he => h e (List.mem_cons_of_mem _ he)) (by simp; omega)
    simp [compRun, h d List.mem_cons_self, small, show acc.length + 1 ≤ 100000 by omega, ih]
theorem ev_comp {F : CF} {t : Tg} {it elt : E} {ρ : Env} {S S1 : Sto} {x : D} {xs : List D} {g : D → D} (h1 : ev F it ρ S = some (x, S1)) (h2 : items x = some xs) (h3 : ∀ d ∈ xs, ∃ ρ', setT t d (wipeT t ρ) = some ρ' ∧ ev F elt ρ' S1 = some (g d, S1)) (hl : xs.length ≤ 100000) :
    ev F (.comp false t it elt) ρ S = some (.lst (xs.map g), S1) := by
  simp only [ev, h1, h2]
  rw [compRun_map (g := g) xs [] (fun d hd => by
        obtain ⟨ρ', e1, e2⟩ := h3 d hd
        simp only [e1, e2]) (by simpa using hl)]
  rfl
theorem compRun_filter {f : D → Sto → Option (Option D × Sto)} {p : D → Bool} {S : Sto} : ∀ (xs acc : List D), (∀ d ∈ xs, f d S = some (if p d then some d else none, S)) → acc.length + xs.length ≤ 100000 → compRun f xs acc S = some (acc ++ xs.filter p, S)
  | [], acc, _, _ => by simp [compRun]
  | d :: ds, acc, h, hl => by
    simp only [List.length_cons] at hl
    have hd := h d List.mem_cons_self
    have hr : ∀ e ∈ ds, f e S = some (if p e then some e else none, S) := fun e he => h e (List.mem_cons_of_mem _ he)
    cases q : p d with
    | true =>
      have ih := compRun_filter (f := f) (p := p) (S := S) ds (acc ++ [d]) hr (by simp; omega)
      rw [q] at hd
      simp [compRun, hd, small, show acc.length + 1 ≤ 100000 by omega, ih, q]
    | false =>
      have ih := compRun_filter (f := f) (p := p) (S := S) ds acc hr (by omega)
      rw [q] at hd
      simp [compRun, hd, ih, q]
theorem ev_filter {F : CF} {i : Nat} {it cond : E} {ρ : Env} {S S1 : Sto} {x : D} {xs : List D} {p : D → Bool} (h1 : ev F it ρ S = some (x, S1)) (h2 : items x = some xs) (hi : i < ρ.length) (h3 : ∀ d ∈ xs, ev F cond ((ρ.set i none).set i (some d)) S1 = some (.bl (p d), S1)) (hl : xs.length ≤ 100000) :
    ev F (.compI false (.n i) it cond (.v i)) ρ S = some (.lst (xs.filter p), S1) := by
  have e1 : ∀ d, ((ρ.set i none).set i (some d))[i]? = some (some d) := fun d => by
    simp [List.getElem?_set, hi]
  simp only [ev, h1, h2]
  rw [compRun_filter (p := p) xs [] (fun d hd => by
        have e2 := h3 d hd
        simp only [setT, wipeT, e2, e1]
        cases q : p d <;> rfl) (by simpa using hl)]
  rfl
theorem eqv_str (a b : Str) : D.eqv (.str a) (.str b) = decide (a = b) := by
  simp [D.eqv, D.py, PyData.eqv]
  rw [Bool.eq_iff_iff]
  simp
theorem bls_map (f : D → Bool) : ∀ xs : List D, bls? (xs.map fun d => .bl (f d)) = some (xs.map f)
  | [] => rfl
  | x :: xs => by simp [bls?, bls_map f xs]
theorem in_sign (c : Nat) (z : Str) : cmpD .In (.str ⟨#[c]⟩) (.str z) = some (decide (c ∈ z.cps.toList)) := by
  simp [cmpD, Str.length]
theorem notin_sign (c : Nat) (z : Str) : cmpD .NotIn (.str ⟨#[c]⟩) (.str z) = some (!decide (c ∈ z.cps.toList)) := by
  simp [cmpD, Str.length]
theorem in_tup {x : D} {ys : List D} (h : x.flat = true) (h2 : ys.all D.flat = true) : cmpD .In x (.tup ys) = some (inFlat x ys) := by
  simp only [cmpD, h, h2, Bool.and_self, if_true]
theorem in_lst {x : D} {ys : List D} (h : x.flat = true) (h2 : ys.all D.flat = true) : cmpD .In x (.lst ys) = some (inFlat x ys) := by
  simp only [cmpD, h, h2, Bool.and_self, if_true]
theorem notin_tup {x : D} {ys : List D} (h : x.flat = true) (h2 : ys.all D.flat = true) : cmpD .NotIn x (.tup ys) = some (!inFlat x ys) := by
  simp only [cmpD, h, h2, Bool.and_self, if_true]
theorem notin_lst {x : D} {ys : List D} (h : x.flat = true) (h2 : ys.all D.flat = true) : cmpD .NotIn x (.lst ys) = some (!inFlat x ys) := by
  simp only [cmpD, h, h2, Bool.and_self, if_true]
def letters : Str := "abcdefghijklmnopqrstuvwxyz"
def digits : Str := "0123456789"
/-- a name, as the text has it -/
def nmOk (x : Str) : Bool := decide (1 ≤ x.length) && decide (x.length ≤ 12) && !decide (x = "of") && !decide (x = "to") && decide (x.cps.toList.headD 0 ∈ letters.cps.toList) && x.cps.toList.all fun c => decide (c ∈ (letters ++ digits).cps.toList)
def nmComp : E := (.comp false (.n 1) (.v 0) (.cmp .In (.v 1) (.op .Add (.g "LETTERS" (.str "abcdefghijklmnopqrstuvwxyz")) (.g "DIGITS" (.str "0123456789")))))
def isNameB : Ss := (.cons (.ifs (.or (.not (.isi (.v 0) [.str])) (.or (.not (.chain .LtE .LtE (.c (.int 1)) (.bi .len (.cons (.v 0) .nil)) (.g "MOST_NAME" (.int 12)))) (.or (.cmp .In (.v 0) (.g "WORDS" (.tup [(.str "of"), (.str "to")]))) (.cmp .NotIn (.ix (.v 0) (.c (.int 0))) (.g "LETTERS" (.str "abcdefghijklmnopqrstuvwxyz")))))) (.cons (.ret (.c (.bl false))) .nil) .nil) (.cons (.ret (.bi .all (.cons nmComp .nil))) .nil))
theorem isName_ok {f : Nat} (hT : T[f]? = some ⟨1, 2, isNameB⟩) {x : Str} (h : nmOk x = true) (S : Sto) : run T w (n + 1) f [.str x] S = some (.bl true, S) := by
  simp only [nmOk, Bool.and_eq_true, decide_eq_true_eq, Bool.not_eq_true', decide_eq_false_iff_not] at h
  obtain ⟨⟨⟨⟨⟨h1, h2⟩, h3⟩, h4⟩, h5⟩, h6⟩ := h
  refine run_rts hT rfl rfl ?_
  have z0 : small x.length = true := decide_eq_true (by omega)
  have z1 : biD .len [.str x] = some (.int x.length) := by show (if _ then _ else _) = _; rw [if_pos z0]
  have z2 : cmpD .LtE (.int 1) (.int x.length) = some true := congrArg some (decide_eq_true (by omega))
  have z3 : cmpD .LtE (.int x.length) (.int 12) = some true := congrArg some (decide_eq_true (by omega))
  have z4 : cmpD .In (.str x) (.tup [.str "of", .str "to"]) = some false := by
    have e : inFlat (.str x) [.str "of", .str "to"] = false := by
      simp only [inFlat, List.any_cons, List.any_nil, eqv_str, Bool.or_false]
      rw [decide_eq_false (fun z => h3 z.symm), decide_eq_false (fun z => h4 z.symm)]
      rfl
    rw [in_tup rfl rfl, e]
  obtain ⟨c0, r, hc⟩ : ∃ c0 r, x.cps.toList = c0 :: r := by
    cases q : x.cps.toList with
    | nil =>
      have : x.length = 0 := by show x.cps.size = 0; rw [← Array.length_toList, q]; rfl
      omega
    | cons a b => exact ⟨a, b, rfl⟩
  have z5 : ixD (.str x) (.int 0) = some (.str ⟨#[c0]⟩) := by
    show (if _ then _ else _) = _
    rw [if_pos z0, hc, show (0 : Int) = ((0 : Nat) : Int) from rfl, atI_nat (by simp)]
    rfl
  rw [hc] at h5
  have z6 : cmpD .NotIn (.str ⟨#[c0]⟩) (.str "abcdefghijklmnopqrstuvwxyz") = some false := by
    rw [notin_sign]
    have e : decide (c0 ∈ letters.cps.toList) = true := decide_eq_true h5
    exact congrArg some (congrArg not e)
  have z7 : opD .Add (.str "abcdefghijklmnopqrstuvwxyz") (.str "0123456789") = some (.str (letters ++ digits)) := rfl
  have z8 : items (.str x) = some (x.cps.toList.map fun c => .str ⟨#[c]⟩) := rfl
  have z9 : ∀ c ∈ x.cps.toList, cmpD .In (.str ⟨#[c]⟩) (.str (letters ++ digits)) = some true := fun c hc => by
    rw [in_sign]
    exact congrArg some (List.all_eq_true.mp h6 c hc)
  have zl : x.cps.toList.length ≤ 12 := by rw [Array.length_toList]; exact h2
  have z10 : ev (run T w n) nmComp [some (.str x), none] S = some (.lst ((x.cps.toList.map fun c => D.str ⟨#[c]⟩).map fun _ => .bl true), S) :=
    ev_comp rfl z8 (fun d hd => by
      obtain ⟨c, hc, rfl⟩ := List.mem_map.mp hd
      refine ⟨_, rfl, ?_⟩
      simp only [wipeT, ev, see, List.set_cons_succ, List.set_cons_zero, List.getElem?_cons_zero, List.getElem?_cons_succ, z7, z9 c hc]) (by simp only [List.length_map]; omega)
  have z11 : biD .all [.lst ((x.cps.toList.map fun c => D.str ⟨#[c]⟩).map fun _ => .bl true)] = some (.bl true) := by
    show (bls? _).map _ = _
    rw [bls_map (fun _ => true)]
    simp
  simp only [isNameB, List.map_cons, List.map_nil, Nat.reduceSub, List.replicate_succ, List.replicate_zero, List.cons_append, List.nil_append, exs, ex, ev, evs, see, seeAll, List.getElem?_cons_zero, List.getElem?_cons_succ, isTy, tyOf, List.any_cons, List.any_nil, z1, z2, z3, z4, z5, z6, z8, z10, mkList, z11, beq_self_eq_true, Bool.true_or, Bool.not_true, Bool.false_eq_true, if_false]
end Iv

set_option Elab.async false
set_option linter.all false
set_option maxRecDepth 100000
set_option maxHeartbeats 4000000
namespace Iv
open PySem
variable {T : List Fn} {w n : Nat}
inductive Enc : D → Wr → Prop where
  | nm (x : Str) : Enc (.str x) (.nm x)
  | ofT {x : Str} {d : D} {b : Wr} : Enc d b → Enc (.tup [.str "of", .str x, d]) (.of x b)
  | ofL {x : Str} {d : D} {b : Wr} : Enc d b → Enc (.lst [.str "of", .str x, d]) (.of x b)
  | toT {d e : D} {a b : Wr} : Enc d a → Enc e b → Enc (.tup [.str "to", d, e]) (.to a b)
  | toL {d e : D} {a b : Wr} : Enc d a → Enc e b → Enc (.lst [.str "to", d, e]) (.to a b)
theorem enc_T : ∀ W : Wr, Enc W.enc W
  | .nm x => .nm x
  | .of _ b => .ofT (enc_T b)
  | .to a b => .toT (enc_T a) (enc_T b)
theorem enc_L : ∀ W : Wr, Enc W.encL W
  | .nm x => .nm x
  | .of _ b => .ofL (enc_L b)
  | .to a b => .toL (enc_L a) (enc_L b)
theorem ev_comp3 {F : CF} {i : Nat} {it elt : E} {ρ : Env} {S S1 : Sto} {x a b c a' b' c' : D} (h1 : ev F it ρ S = some (x, S1)) (h2 : items x = some [a, b, c])
    (ha : ev F elt ((ρ.set i none).set i (some a)) S1 = some (a', S1)) (hb : ev F elt ((ρ.set i none).set i (some b)) S1 = some (b', S1)) (hc : ev F elt ((ρ.set i none).set i (some c)) S1 = some (c', S1)) :
    ev F (.comp false (.n i) it elt) ρ S = some (.lst [a', b', c'], S1) := by
  simp only [ev, h1, h2, compRun, setT, wipeT, ha, hb, hc, List.length_nil, List.length_cons, List.length_append, small, mkList, List.nil_append, List.cons_append, Bool.false_eq_true, if_false]
  rfl

theorem see_str (S : Sto) (x : Str) : see S (.str x) = some (.str x) := rfl
theorem see_int (S : Sto) (x : Int) : see S (.int x) = some (.int x) := rfl
theorem see_bl (S : Sto) (x : Bool) : see S (.bl x) = some (.bl x) := rfl
theorem see_tup (S : Sto) (x : List D) : see S (.tup x) = some (.tup x) := rfl
theorem see_lst (S : Sto) (x : List D) : see S (.lst x) = some (.lst x) := rfl
def asTupC (self : Nat) : E := (.comp false (.n 1) (.v 0) (.call self (.cons (.v 1) .nil)))
def asTupB (self : Nat) : Ss := (.cons (.ret (.ite (.isi (.v 0) [.list, .tuple]) (.bi .tuple (.cons (asTupC self) .nil)) (.v 0))) .nil)
theorem asTup_nm {f : Nat} (hT : T[f]? = some ⟨1, 2, asTupB f⟩) (x : Str) (S : Sto) (n : Nat) (hn : 1 ≤ n) : run T w n f [.str x] S = some (.str x, S) := by
  obtain ⟨n, rfl⟩ : ∃ m, n = m + 1 := ⟨n - 1, by omega⟩
  exact run_rts hT rfl rfl rfl
theorem asTup_sq {f : Nat} (hT : T[f]? = some ⟨1, 2, asTupB f⟩) {d a b c a' b' c' : D} (hd : d = .tup [a, b, c] ∨ d = .lst [a, b, c]) {S : Sto} (ha : run T w n f [a] S = some (a', S)) (hb : run T w n f [b] S = some (b', S)) (hc : run T w n f [c] S = some (c', S)) :
    run T w (n + 1) f [d] S = some (.tup [a', b', c'], S) := by
  refine run_rts hT rfl rfl ?_
  have z : ev (run T w n) (asTupC f) [some d, none] S = some (.lst [a', b', c'], S) := by
    refine ev_comp3 (a := a) (b := b) (c := c) (x := d) rfl (by rcases hd with rfl | rfl <;> rfl) ?_ ?_ ?_
    · simp only [ev, evs, List.set_cons_succ, List.set_cons_zero, List.getElem?_cons_zero, List.getElem?_cons_succ, ha]
    · simp only [ev, evs, List.set_cons_succ, List.set_cons_zero, List.getElem?_cons_zero, List.getElem?_cons_succ, hb]
    · simp only [ev, evs, List.set_cons_succ, List.set_cons_zero, List.getElem?_cons_zero, List.getElem?_cons_succ, hc]
  have z2 : biD .tuple [.lst [a', b', c']] = some (.tup [a', b', c']) := rfl
  have z3 : [Ty.list, .tuple].any (isTy d) = true := by rcases hd with rfl | rfl <;> rfl
  have z4 : see S d = some d := by rcases hd with rfl | rfl <;> rfl
  simp only [asTupB, List.map_cons, List.map_nil, Nat.reduceSub, List.replicate_succ, List.replicate_zero, List.cons_append, List.nil_append, exs, ex, ev, evs, see_lst, seeAll, List.getElem?_cons_zero, List.getElem?_cons_succ, z, z2, z3, z4]
theorem asTup_ok {f : Nat} (hT : T[f]? = some ⟨1, 2, asTupB f⟩) {S : Sto} {d : D} {W : Wr} (h : Enc d W) : ∀ n, W.dp + 1 ≤ n → run T w n f [d] S = some (W.enc, S) := by
  induction h with
  | nm x => exact fun n hn => asTup_nm hT x S n (by omega)
  | ofT _ ih | ofL _ ih =>
    intro n hn
    simp only [Wr.dp] at hn
    obtain ⟨n, rfl⟩ : ∃ m, n = m + 1 := ⟨n - 1, by omega⟩
    exact asTup_sq hT (by first | exact .inl rfl | exact .inr rfl) (asTup_nm hT _ S n (by omega)) (asTup_nm hT _ S n (by omega)) (ih n (by omega))
  | toT _ _ ih1 ih2 | toL _ _ ih1 ih2 =>
    intro n hn
    simp only [Wr.dp] at hn
    obtain ⟨n, rfl⟩ : ∃ m, n = m + 1 := ⟨n - 1, by omega⟩
    exact asTup_sq hT (by first | exact .inl rfl | exact .inr rfl) (asTup_nm hT _ S n (by omega)) (ih1 n (by omega)) (ih2 n (by omega))

def isWrB (nm self : Nat) : Ss := (.cons (.ifs (.isi (.v 0) [.str]) (.cons (.ret (.call nm (.cons (.v 0) .nil))) .nil) .nil) (.cons (.ifs (.or (.not (.isi (.v 0) [.list, .tuple])) (.or (.cmp .NotEq (.bi .len (.cons (.v 0) .nil)) (.c (.int 3))) (.cmp .NotIn (.ix (.v 0) (.c (.int 0))) (.tup (.cons (.g "OF" (.str "of")) (.cons (.g "TO" (.str "to")) .nil)))))) (.cons (.ret (.c (.bl false))) .nil) .nil) (.cons (.ifs (.cmp .Eq (.ix (.v 0) (.c (.int 0))) (.g "OF" (.str "of"))) (.cons (.ret (.and (.call nm (.cons (.ix (.v 0) (.c (.int 1))) .nil)) (.call self (.cons (.ix (.v 0) (.c (.int 2))) .nil)))) .nil) .nil) (.cons (.ret (.and (.call self (.cons (.ix (.v 0) (.c (.int 1))) .nil)) (.call self (.cons (.ix (.v 0) (.c (.int 2))) .nil)))) .nil))))
/-- three parts, seen -/
structure Sq3 (d a b c : D) : Prop where
  s : ∀ S, see S d = some d
  str : [Ty.str].any (isTy d) = false
  sq : [Ty.list, .tuple].any (isTy d) = true
  len : biD .len [d] = some (.int 3)
  i0 : ixD d (.int 0) = some a
  i1 : ixD d (.int 1) = some b
  i2 : ixD d (.int 2) = some c
theorem sq3_T (a b c : D) : Sq3 (.tup [a, b, c]) a b c := ⟨fun _ => rfl, rfl, rfl, rfl, rfl, rfl, rfl⟩
theorem sq3_L (a b c : D) : Sq3 (.lst [a, b, c]) a b c := ⟨fun _ => rfl, rfl, rfl, rfl, rfl, rfl, rfl⟩
theorem notin_of : cmpD .NotIn (.str "of") (.tup [.str "of", .str "to"]) = some false := by rw [notin_tup rfl rfl]; simp [inFlat, eqv_str]
theorem notin_to : cmpD .NotIn (.str "to") (.tup [.str "of", .str "to"]) = some false := by rw [notin_tup rfl rfl]; simp [inFlat, eqv_str]
theorem eq_of : cmpD .Eq (.str "of") (.str "of") = some true := congrArg some (decide_eq_true rfl)
theorem eq_to : cmpD .Eq (.str "to") (.str "of") = some false := congrArg some (by decide)
theorem ne_3 : cmpD .NotEq (.int 3) (.int 3) = some false := rfl
theorem sm2 (a b : D) : small [a, b].length = true := rfl
theorem isWr_nm {f g : Nat} (h0 : T[g]? = some ⟨1, 2, isNameB⟩) (hT : T[f]? = some ⟨1, 1, isWrB g f⟩) {x : Str} (hx : nmOk x = true) (S : Sto) (n : Nat) (hn : 2 ≤ n) : run T w n f [.str x] S = some (.bl true, S) := by
  obtain ⟨n, rfl⟩ : ∃ m, n = m + 2 := ⟨n - 2, by omega⟩
  refine run_rts hT rfl rfl ?_
  have z := isName_ok (T := T) (w := w) (n := n) h0 hx S
  simp only [isWrB, List.map_cons, List.map_nil, Nat.sub_self, List.replicate_zero, List.cons_append, List.nil_append, exs, ex, ev, evs, see, List.getElem?_cons_zero, isTy, tyOf, List.any_cons, List.any_nil, beq_self_eq_true, Bool.true_or, z]
theorem isWr_of {f g : Nat} (h0 : T[g]? = some ⟨1, 2, isNameB⟩) (hT : T[f]? = some ⟨1, 1, isWrB g f⟩) {d b : D} {x : Str} (hx : nmOk x = true) (q : Sq3 d (.str "of") (.str x) b) {S : Sto} (hb : run T w (n + 1) f [b] S = some (.bl true, S)) : run T w (n + 2) f [d] S = some (.bl true, S) := by
  refine run_rts hT rfl rfl ?_
  have z := isName_ok (T := T) (w := w) (n := n) h0 hx S
  obtain ⟨q1, q2, q3, q4, q5, q6, q7⟩ := q
  simp only [isWrB, List.map_cons, List.map_nil, Nat.sub_self, List.replicate_zero, List.cons_append, List.nil_append, exs, ex, ev, evs, see_str, see_int, see_tup, q1, q2, q3, q4, q5, q6, q7, ne_3, sm2, notin_of, eq_of, seeAll, List.getElem?_cons_zero, Bool.not_true, if_true, z, hb]
theorem isWr_to {f g : Nat} (h0 : T[g]? = some ⟨1, 2, isNameB⟩) (hT : T[f]? = some ⟨1, 1, isWrB g f⟩) {d a b : D} (q : Sq3 d (.str "to") a b) {S : Sto} (ha : run T w n f [a] S = some (.bl true, S)) (hb : run T w n f [b] S = some (.bl true, S)) : run T w (n + 1) f [d] S = some (.bl true, S) := by
  refine run_rts hT rfl rfl ?_
  obtain ⟨q1, q2, q3, q4, q5, q6, q7⟩ := q
  simp only [isWrB, List.map_cons, List.map_nil, Nat.sub_self, List.replicate_zero, List.cons_append, List.nil_append, exs, ex, ev, evs, see_str, see_int, see_tup, q1, q2, q3, q4, q5, q6, q7, ne_3, sm2, notin_to, eq_to, seeAll, List.getElem?_cons_zero, Bool.not_true, if_true, ha, hb]
theorem isWr_ok {f g : Nat} (h0 : T[g]? = some ⟨1, 2, isNameB⟩) (hT : T[f]? = some ⟨1, 1, isWrB g f⟩) {S : Sto} {d : D} {W : Wr} (h : Enc d W) : (∀ x ∈ W.names, nmOk x = true) → ∀ n, W.dp + 2 ≤ n → run T w n f [d] S = some (.bl true, S) := by
  induction h with
  | nm x => exact fun hW n hn => isWr_nm h0 hT (hW x List.mem_cons_self) S n (by omega)
  | ofT _ ih | ofL _ ih =>
    intro hW n hn
    simp only [Wr.dp] at hn
    obtain ⟨n, rfl⟩ : ∃ m, n = m + 2 := ⟨n - 2, by omega⟩
    exact isWr_of h0 hT (hW _ List.mem_cons_self) (by first | exact sq3_T _ _ _ | exact sq3_L _ _ _) (ih (fun y hy => hW y (List.mem_cons_of_mem _ hy)) (n + 1) (by omega))
  | toT _ _ ih1 ih2 | toL _ _ ih1 ih2 =>
    intro hW n hn
    simp only [Wr.dp] at hn
    obtain ⟨n, rfl⟩ : ∃ m, n = m + 1 := ⟨n - 1, by omega⟩
    exact isWr_to h0 hT (by first | exact sq3_T _ _ _ | exact sq3_L _ _ _) (ih1 (fun y hy => hW y (List.mem_append_left _ hy)) n (by omega)) (ih2 (fun y hy => hW y (List.mem_append_right _ hy)) n (by omega))
def needB (wr tup : Nat) : Ss := (.cons (.ifs (.not (.call wr (.cons (.v 0) .nil))) (.cons .never .nil) .nil) (.cons (.ret (.call tup (.cons (.v 0) .nil))) .nil))
theorem need_ok {f g h k : Nat} (h0 : T[g]? = some ⟨1, 2, isNameB⟩) (h1 : T[h]? = some ⟨1, 1, isWrB g h⟩) (h2 : T[k]? = some ⟨1, 2, asTupB k⟩) (hT : T[f]? = some ⟨2, 2, needB h k⟩) {S : Sto} {d p : D} {W : Wr} (e : Enc d W) (hW : ∀ x ∈ W.names, nmOk x = true) (hn : W.dp + 2 ≤ n) :
    run T w (n + 1) f [d, p] S = some (W.enc, S) := by
  refine run_rts hT rfl rfl ?_
  have z1 := isWr_ok (w := w) h0 h1 (S := S) e hW n hn
  have z2 := asTup_ok (w := w) h2 (S := S) e n (by omega)
  simp only [needB, List.map_cons, List.map_nil, Nat.sub_self, List.replicate_zero, List.cons_append, List.nil_append, exs, ex, ev, evs, List.getElem?_cons_zero, z1, z2, Bool.not_true]

def listedC (self : Nat) : E := (.comp false (.n 1) (.v 0) (.call self (.cons (.v 1) .nil)))
def listedB (self : Nat) : Ss := (.cons (.ret (.ite (.isi (.v 0) [.str]) (.v 0) (listedC self))) .nil)
theorem listed_nm {f : Nat} (hT : T[f]? = some ⟨1, 2, listedB f⟩) (x : Str) (S : Sto) (n : Nat) (hn : 1 ≤ n) : run T w n f [.str x] S = some (.str x, S) := by
  obtain ⟨n, rfl⟩ : ∃ m, n = m + 1 := ⟨n - 1, by omega⟩
  exact run_rts hT rfl rfl rfl
theorem listed_sq {f : Nat} (hT : T[f]? = some ⟨1, 2, listedB f⟩) {a b c a' b' c' : D} {S : Sto} (ha : run T w n f [a] S = some (a', S)) (hb : run T w n f [b] S = some (b', S)) (hc : run T w n f [c] S = some (c', S)) :
    run T w (n + 1) f [.tup [a, b, c]] S = some (.lst [a', b', c'], S) := by
  refine run_rts hT rfl rfl ?_
  have z : ev (run T w n) (listedC f) [some (.tup [a, b, c]), none] S = some (.lst [a', b', c'], S) := by
    refine ev_comp3 (a := a) (b := b) (c := c) (x := .tup [a, b, c]) rfl rfl ?_ ?_ ?_
    · simp only [ev, evs, List.set_cons_succ, List.set_cons_zero, List.getElem?_cons_zero, List.getElem?_cons_succ, ha]
    · simp only [ev, evs, List.set_cons_succ, List.set_cons_zero, List.getElem?_cons_zero, List.getElem?_cons_succ, hb]
    · simp only [ev, evs, List.set_cons_succ, List.set_cons_zero, List.getElem?_cons_zero, List.getElem?_cons_succ, hc]
  have z3 : [Ty.str].any (isTy (.tup [a, b, c])) = false := rfl
  simp only [listedB, List.map_cons, List.map_nil, Nat.reduceSub, List.replicate_succ, List.replicate_zero, List.cons_append, List.nil_append, exs, ex, ev, evs, see, seeAll, List.getElem?_cons_zero, List.getElem?_cons_succ, z, z3]
theorem listed_ok {f : Nat} (hT : T[f]? = some ⟨1, 2, listedB f⟩) {S : Sto} : ∀ (W : Wr) (n : Nat), W.dp + 1 ≤ n → run T w n f [W.enc] S = some (W.encL, S)
  | .nm x, n, hn => listed_nm hT x S n (by omega)
  | .of x b, n, hn => by
    simp only [Wr.dp] at hn
    obtain ⟨n, rfl⟩ : ∃ m, n = m + 1 := ⟨n - 1, by omega⟩
    exact listed_sq hT (listed_nm hT _ S n (by omega)) (listed_nm hT _ S n (by omega)) (listed_ok hT b n (by omega))
  | .to a b, n, hn => by
    simp only [Wr.dp] at hn
    obtain ⟨n, rfl⟩ : ∃ m, n = m + 1 := ⟨n - 1, by omega⟩
    exact listed_sq hT (listed_nm hT _ S n (by omega)) (listed_ok hT a n (by omega)) (listed_ok hT b n (by omega))
def shelfE (k : Int) : E := (.comp false (.n 1) (.sl (.v 0) (.c .non) (.c (.int k))) (.bi .int (.cons (.v 1) .nil)))
def shelfB (k : Int) : Ss := (.cons (.ret (.new (.cons (shelfE k) (.cons (.c (.int 0)) (.cons (.c (.int 0)) .nil))))) .nil)
theorem shelf_ok {f k : Nat} (hT : T[f]? = some ⟨1, 2, shelfB k⟩) (hk : k ≤ 1000) (ns : List Int) : run T w (n + 1) f [.lst (ns.map D.int)] [] = some (.ref 0, [some (shelf (ns.take k) 0 0)]) := by
  have z1 : slD (.lst (ns.map D.int)) none (some (k : Int)) = some (.lst ((ns.take k).map D.int)) := by
    show some (D.lst (cutD _ _ _)) = _
    unfold cutD
    rw [HT.sIx_none, HT.sIx_nat, List.drop_zero, Nat.sub_zero, List.map_take]
    by_cases h : k ≤ ns.length
    · rw [Nat.min_eq_left (by simpa using h)]
    · rw [Nat.min_eq_right (by simp; omega), List.take_of_length_le (by simp), List.take_of_length_le (by simp; omega)]
  have z2 : ev (run T w n) (shelfE k) [some (.lst (ns.map D.int)), none] [] = some (.lst (((ns.take k).map D.int).map id), []) :=
    ev_comp (g := id) (x := .lst ((ns.take k).map D.int)) (by simp only [ev, List.getElem?_cons_zero, see, part?, z1, isNonE, isIntD, Bool.true_or, Bool.or_true, Bool.and_self, if_true]) rfl (fun d hd => by
      obtain ⟨i, _, rfl⟩ := List.mem_map.mp hd
      exact ⟨_, rfl, rfl⟩) (by simp; omega)
  rw [List.map_id] at z2
  have z3 : D.pures [.lst ((ns.take k).map D.int), .int 0, .int 0] = true := by simp only [D.pures, D.pure, pures_ints, Bool.and_self]
  rw [run_rt hT rfl (d := .ref 0) (S1 := [some (shelf (ns.take k) 0 0)])]
  · rfl
  · simp only [shelfB, List.map_cons, List.map_nil, Nat.reduceSub, List.replicate_succ, List.replicate_zero, List.cons_append, List.nil_append, exs, ex, ev, evs, z2, mkList, z3, if_true, List.length_nil, List.length_cons, small]
    rfl
end Iv

set_option Elab.async false
set_option linter.all false
set_option maxRecDepth 100000
set_option maxHeartbeats 4000000
namespace Lk51
open PySem PySem.Spec PyProof.Rows L2 Iv
def top (i : Nat) : Stmt := PySem.Challenge.pw_timesagain_k51_next_asks_by_own_reckonin.main.body.getD i (.Pass ⟨0, 0, 0, 0⟩)
def b_is_integer : Ss := (.cons (.ret (.and (.isi (.v 0) [.int]) (.not (.isi (.v 0) [.bool])))) .nil)
def d_is_integer : DefI := ⟨"is_integer", ["value"], ["value"], ⟨1, 1, b_is_integer⟩, defArgs (top 8), defBody (top 8), defScope (top 8)⟩
def b_is_within : Ss := (.cons (.ifs (.or (.not (.call 0 (.cons (.v 0) .nil))) (.and (.cmp .IsNot (.v 1) (.c .non)) (.cmp .Lt (.v 0) (.v 1)))) (.cons (.ret (.c (.bl false))) .nil) .nil) (.cons (.ret (.or (.cmp .Is (.v 2) (.c .non)) (.cmp .LtE (.v 0) (.v 2)))) .nil))
def d_is_within : DefI := ⟨"is_within", ["value", "least", "most"], ["value", "least", "most"], ⟨3, 3, b_is_within⟩, defArgs (top 9), defBody (top 9), defScope (top 9)⟩
def b_need_number : Ss := (.cons (.ifs (.not (.call 1 (.cons (.v 0) (.cons (.v 2) (.cons (.v 3) .nil))))) (.cons .never .nil) .nil) .nil)
def d_need_number : DefI := ⟨"need_number", ["value", "part", "least", "most"], ["value", "part", "least", "most"], ⟨4, 4, b_need_number⟩, defArgs (top 10), defBody (top 10), defScope (top 10)⟩
def b_need_many : Ss := (.cons (.ex (.call 2 (.cons (.v 0) (.cons (.c (.str "many")) (.cons (.c (.int 0)) (.cons (.g "MOST_MANY" (.int 3)) .nil)))))) .nil)
def d_need_many : DefI := ⟨"need_many", ["value"], ["value"], ⟨1, 1, b_need_many⟩, defArgs (top 11), defBody (top 11), defScope (top 11)⟩
def b_are_numbers : Ss := (.cons (.ret (.and (.isi (.v 0) [.list, .tuple]) (.bi .all (.cons (.comp false (.n 1) (.v 0) (.call 1 (.cons (.v 1) (.cons (.c (.int 0)) (.cons (.c .non) .nil))))) .nil)))) .nil)
def d_are_numbers : DefI := ⟨"are_numbers", ["value"], ["value", "part"], ⟨1, 2, b_are_numbers⟩, defArgs (top 12), defBody (top 12), defScope (top 12)⟩
def b_choices : Ss := (.cons (.ex (.call 3 (.cons (.v 0) .nil))) (.cons (.asg (.n 1) (.lst (.cons (.tup .nil) .nil))) (.cons (.for (.n 2) (.rng (.c (.int 0)) (.v 0)) (.cons (.asg (.n 1) (.comp2 false (.n 3) (.v 1) (.n 4) (.tup (.cons (.c (.int 0)) (.cons (.c (.int 1)) .nil))) (.tup (.star (.v 3) (.cons (.v 4) .nil))))) .nil)) (.cons (.ret (.bi .tuple (.cons (.v 1) .nil))) .nil))))
def d_choices : DefI := ⟨"choices", ["many"], ["many", "found", "_", "signs", "sign"], ⟨1, 5, b_choices⟩, defArgs (top 14), defBody (top 14), defScope (top 14)⟩
def b_is_answer : Ss := (.cons (.ifs (.or (.not (.isi (.v 0) [.list, .tuple])) (.cmp .NotEq (.bi .len (.cons (.v 0) .nil)) (.c (.int 2)))) (.cons (.ret (.c (.bl false))) .nil) .nil) (.cons (.ret (.and (.call 4 (.cons (.ix (.v 0) (.c (.int 0))) .nil)) (.and (.cmp .Eq (.bi .len (.cons (.ix (.v 0) (.c (.int 0))) .nil)) (.v 1)) (.call 1 (.cons (.ix (.v 0) (.c (.int 1))) (.cons (.c (.int 0)) (.cons (.c .non) .nil))))))) .nil))
def d_is_answer : DefI := ⟨"is_answer", ["value", "many"], ["value", "many"], ⟨2, 2, b_is_answer⟩, defArgs (top 18), defBody (top 18), defScope (top 18)⟩
def b_are_answers : Ss := (.cons (.ret (.and (.isi (.v 0) [.list, .tuple]) (.bi .all (.cons (.comp false (.n 2) (.v 0) (.call 6 (.cons (.v 2) (.cons (.v 1) .nil)))) .nil)))) .nil)
def d_are_answers : DefI := ⟨"are_answers", ["value", "many"], ["value", "many", "each"], ⟨2, 3, b_are_answers⟩, defArgs (top 19), defBody (top 19), defScope (top 19)⟩
def b_raised : Ss := (.cons (.asg (.n 2) (.c (.int 1))) (.cons (.for (.n 3) (.rng (.c (.int 0)) (.v 1)) (.cons (.asg (.n 2) (.op .Mult (.v 2) (.v 0))) .nil)) (.cons (.ret (.v 2)) .nil)))
def d_raised : DefI := ⟨"raised", ["number", "times"], ["number", "times", "found", "_"], ⟨2, 4, b_raised⟩, defArgs (top 20), defBody (top 20), defScope (top 20)⟩
def b_steps_of_places : Ss := (.cons (.ret (.bits (.v 0))) .nil)
def d_steps_of_places : DefI := ⟨"steps_of_places", ["value"], ["value"], ⟨1, 1, b_steps_of_places⟩, defArgs (top 21), defBody (top 21), defScope (top 21)⟩
def b_spread : Ss := (.cons (.par [2, 3] (.cons (.new .nil) (.cons (.c (.int 0)) .nil))) (.cons (.for (.n 4) (.v 0) (.cons (.ex (.meth .append (.v 2) (.cons (.ite (.cmp .Eq (.v 4) (.c (.int 1))) (.ix (.v 1) (.v 3)) (.c (.int 0))) .nil))) (.cons (.asg (.n 3) (.op .Add (.v 3) (.v 4))) .nil))) (.cons (.ret (.bi .tuple (.cons (.v 2) .nil))) .nil)))
def d_spread : DefI := ⟨"spread", ["choice", "wanted"], ["choice", "wanted", "found", "spot", "sign"], ⟨2, 5, b_spread⟩, defArgs (top 22), defBody (top 22), defScope (top 22)⟩
def b_second_numbers : Ss := (.cons (.asg (.n 2) (.new (.cons (.op .Add (.v 1) (.c (.int 1))) .nil))) (.cons (.for (.n 3) (.rng (.c (.int 1)) (.bi .sum (.cons (.v 0) .nil))) (.cons (.ex (.meth .append (.v 2) (.cons (.call 8 (.cons (.ix (.v 2) (.neg (.c (.int 1)))) (.cons (.call 9 (.cons (.v 1) .nil)) .nil))) .nil))) .nil)) (.cons (.ret (.call 10 (.cons (.v 0) (.cons (.v 2) .nil)))) .nil)))
def d_second_numbers : DefI := ⟨"second_numbers", ["choice", "value"], ["choice", "value", "wanted", "_"], ⟨2, 4, b_second_numbers⟩, defArgs (top 23), defBody (top 23), defScope (top 23)⟩
def b_next_of : Ss := (.cons (.ifs (.cmp .Eq (.v 1) (.lst .nil)) (.cons (.ret (.call 10 (.cons (.v 0) (.cons (.op .Mult (.lst (.cons (.g "FIRST" (.int 2)) .nil)) (.bi .len (.cons (.v 0) .nil))) .nil)))) .nil) .nil) (.cons (.ifs (.or (.cmp .Eq (.bi .sum (.cons (.v 0) .nil)) (.c (.int 0))) (.or (.cmp .Eq (.bi .len (.cons (.v 1) .nil)) (.c (.int 2))) (.cmp .LtE (.ix (.v 1) (.c (.int 0))) (.c (.int 1))))) (.cons (.ret (.c .non)) .nil) .nil) (.cons (.ret (.call 11 (.cons (.v 0) (.cons (.ix (.v 1) (.c (.int 0))) .nil)))) .nil)))
def d_next_of : DefI := ⟨"next_of", ["choice", "values"], ["choice", "values"], ⟨2, 2, b_next_of⟩, defArgs (top 24), defBody (top 24), defScope (top 24)⟩
def b_need_small : Ss := (.cons (.asg (.n 2) (.ix (.g "MOST_VALUES" (.tup [.non, (.int 1000000000000000000), (.int 10000), (.int 200)])) (.v 1))) (.cons (.ifs (.and (.cmp .IsNot (.v 2) (.c .non)) (.cmp .Gt (.v 0) (.v 2))) (.cons .never .nil) .nil) .nil))
def d_need_small : DefI := ⟨"need_small", ["value", "above"], ["value", "above", "most"], ⟨2, 3, b_need_small⟩, defArgs (top 25), defBody (top 25), defScope (top 25)⟩
def b_sorted_out : Ss := (.cons (.par [2, 3] (.cons (.call 5 (.cons (.v 0) .nil)) (.cons (.new (.cons (.new .nil) .nil)) .nil))) (.cons (.asg (.n 4) (.call 12 (.cons (.ix (.v 2) (.c (.int 0))) (.cons (.lst .nil) .nil)))) (.cons (.for (.t [5, 6]) (.v 1) (.cons (.ifs (.or (.cmp .Is (.v 4) (.c .non)) (.cmp .NotEq (.bi .tuple (.cons (.v 5) .nil)) (.v 4))) (.cons .never .nil) .nil) (.cons (.asg (.n 7) (.ix (.v 2) (.op .Sub (.bi .len (.cons (.v 3) .nil)) (.c (.int 1))))) (.cons (.ifs (.cmp .Eq (.ix (.v 3) (.neg (.c (.int 1)))) (.lst .nil)) (.cons (.ex (.call 13 (.cons (.v 6) (.cons (.bi .sum (.cons (.v 7) .nil)) .nil)))) .nil) .nil) (.cons (.ex (.meth .append (.ix (.v 3) (.neg (.c (.int 1)))) (.cons (.v 6) .nil))) (.cons (.asg (.n 4) (.call 12 (.cons (.v 7) (.cons (.ix (.v 3) (.neg (.c (.int 1)))) .nil)))) (.cons (.ifs (.and (.cmp .Is (.v 4) (.c .non)) (.cmp .Lt (.bi .len (.cons (.v 3) .nil)) (.bi .len (.cons (.v 2) .nil)))) (.cons (.asg (.n 4) (.call 12 (.cons (.ix (.v 2) (.bi .len (.cons (.v 3) .nil))) (.cons (.lst .nil) .nil)))) (.cons (.ex (.meth .append (.v 3) (.cons (.new .nil) .nil))) .nil)) .nil) .nil))))))) (.cons (.ret (.tup (.cons (.v 3) (.cons (.v 4) .nil)))) .nil))))
def d_sorted_out : DefI := ⟨"sorted_out", ["many", "answers"], ["many", "answers", "waiting", "values", "wanted", "numbers", "value", "choice"], ⟨2, 8, b_sorted_out⟩, defArgs (top 26), defBody (top 26), defScope (top 26)⟩
def b_need_answers : Ss := (.cons (.ex (.call 3 (.cons (.v 0) .nil))) (.cons (.ifs (.not (.call 7 (.cons (.v 1) (.cons (.v 0) .nil)))) (.cons .never .nil) .nil) .nil))
def d_need_answers : DefI := ⟨"need_answers", ["many", "answers"], ["many", "answers"], ⟨2, 2, b_need_answers⟩, defArgs (top 27), defBody (top 27), defScope (top 27)⟩
def b_next_ask : Ss := (.cons (.ex (.call 15 (.cons (.v 0) (.cons (.v 1) .nil)))) (.cons (.ret (.ix (.call 14 (.cons (.v 0) (.cons (.v 1) .nil))) (.c (.int 1)))) .nil))
def d_next_ask : DefI := ⟨"next_ask", ["many", "answers"], ["many", "answers"], ⟨2, 2, b_next_ask⟩, defArgs (top 28), defBody (top 28), defScope (top 28)⟩
def b__law_sack : Ss := (.cons (.ret (.new (.cons (.comp false (.n 1) (.sl (.v 0) (.c .non) (.c (.int 62))) (.bi .int (.cons (.v 1) .nil))) (.cons (.c (.int 0)) (.cons (.c (.int 0)) .nil))))) .nil)
def d__law_sack : DefI := ⟨"_law_sack", ["script"], ["script", "cell"], ⟨1, 2, b__law_sack⟩, defArgs (top 30), defBody (top 30), defScope (top 30)⟩
def b__law_take : Ss := (.cons (.ifs (.cmp .Gt (.ix (.v 0) (.c (.int 2))) (.c (.int 0))) (.cons (.asg (.n 5) (.ix (.v 0) (.c (.int 2)))) (.cons (.put (.v 0) (.c (.int 2)) (.op .FloorDiv (.bi .int (.cons (.v 5) .nil)) (.v 1))) (.cons (.ret (.op .Mod (.bi .int (.cons (.v 5) .nil)) (.v 1))) .nil))) .nil) (.cons (.asg (.n 2) (.ix (.v 0) (.c (.int 1)))) (.cons (.put (.v 0) (.c (.int 1)) (.op .Add (.v 2) (.c (.int 1)))) (.cons (.asg (.n 3) (.op .Add (.op .Mult (.c (.int 61027)) (.v 2)) (.c (.int 3181)))) (.cons (.ifs (.cmp .NotEq (.ix (.v 0) (.c (.int 0))) (.lst .nil)) (.cons (.asg (.n 3) (.ix (.ix (.v 0) (.c (.int 0))) (.op .Mod (.bi .int (.cons (.v 2) .nil)) (.bi .len (.cons (.ix (.v 0) (.c (.int 0))) .nil))))) .nil) .nil) (.cons (.ifs (.and (.cmp .Lt (.v 2) (.bi .len (.cons (.ix (.v 0) (.c (.int 0))) .nil))) (.cmp .GtE (.bi .abs (.cons (.v 3) .nil)) (.op .Pow (.c (.int 10)) (.c (.int 18))))) (.cons (.asg (.n 5) (.op .Add (.op .Mult (.c (.int 2)) (.op .Sub (.bi .abs (.cons (.v 3) .nil)) (.op .Pow (.c (.int 10)) (.c (.int 18))))) (.bi .int (.cons (.cmp .Lt (.v 3) (.c (.int 0))) .nil)))) (.cons (.put (.v 0) (.c (.int 2)) (.op .FloorDiv (.bi .int (.cons (.v 5) .nil)) (.v 1))) (.cons (.ret (.op .Mod (.bi .int (.cons (.v 5) .nil)) (.v 1))) .nil))) .nil) (.cons (.asg (.n 4) (.op .Mod (.bi .int (.cons (.op .Pow (.op .Add (.op .Add (.op .Mod (.bi .int (.cons (.v 3) .nil)) (.c (.int 2147483497))) (.op .Mult (.c (.int 73009)) (.v 2))) (.c (.int 3181))) (.c (.int 5))) .nil)) (.c (.int 2147483543)))) (.cons (.asg (.n 4) (.op .Mod (.bi .int (.cons (.op .Pow (.op .Add (.op .Add (.op .Mult (.v 4) (.op .Add (.op .Mult (.c (.int 2)) (.v 2)) (.c (.int 2657)))) (.op .Mult (.op .Mult (.c (.int 61027)) (.v 2)) (.v 2))) (.c (.int 73009))) (.c (.int 3))) .nil)) (.c (.int 2147483549)))) (.cons (.ret (.op .Mod (.bi .int (.cons (.op .FloorDiv (.v 4) (.c (.int 64))) .nil)) (.v 1))) .nil)))))))))
def d__law_take : DefI := ⟨"_law_take", ["sack", "many"], ["sack", "many", "turn", "cell", "mixed", "rest"], ⟨2, 6, b__law_take⟩, defArgs (top 31), defBody (top 31), defScope (top 31)⟩
def b__law_pick : Ss := (.cons (.ret (.ix (.v 1) (.call 18 (.cons (.v 0) (.cons (.bi .len (.cons (.v 1) .nil)) .nil))))) .nil)
def d__law_pick : DefI := ⟨"_law_pick", ["sack", "some"], ["sack", "some"], ⟨2, 2, b__law_pick⟩, defArgs (top 32), defBody (top 32), defScope (top 32)⟩
def b__law_power : Ss := (.cons (.asg (.n 2) (.c (.int 1))) (.cons (.for (.n 3) (.rng (.c (.int 0)) (.v 1)) (.cons (.asg (.n 2) (.op .Mult (.v 2) (.v 0))) .nil)) (.cons (.ret (.v 2)) .nil)))
def d__law_power : DefI := ⟨"_law_power", ["number", "times"], ["number", "times", "found", "turn"], ⟨2, 4, b__law_power⟩, defArgs (top 33), defBody (top 33), defScope (top 33)⟩
def b__law_choices : Ss := (.cons (.asg (.n 1) (.lst (.cons (.tup .nil) .nil))) (.cons (.for (.n 2) (.rng (.c (.int 0)) (.v 0)) (.cons (.asg (.n 1) (.op .Add (.comp false (.n 3) (.v 1) (.op .Add (.v 3) (.tup (.cons (.c (.int 0)) .nil)))) (.comp false (.n 3) (.v 1) (.op .Add (.v 3) (.tup (.cons (.c (.int 1)) .nil)))))) .nil)) (.cons (.ret (.bi .sorted (.cons (.v 1) .nil))) .nil)))
def d__law_choices : DefI := ⟨"_law_choices", ["many"], ["many", "found", "turn", "choice"], ⟨1, 4, b__law_choices⟩, defArgs (top 34), defBody (top 34), defScope (top 34)⟩
def b__law_terms : Ss := (.cons (.par [2, 3, 4] (.cons (.ix (.lst (.cons (.c (.int 50)) (.cons (.op .Pow (.c (.int 10)) (.c (.int 18))) (.cons (.op .Pow (.c (.int 10)) (.c (.int 4))) (.cons (.c (.int 200)) .nil))))) (.bi .sum (.cons (.v 1) .nil))) (.cons (.new .nil) (.cons (.c (.int 0)) .nil)))) (.cons (.for (.n 5) (.rng (.c (.int 0)) (.call 18 (.cons (.v 0) (.cons (.c (.int 5)) .nil)))) (.cons (.asg (.n 6) (.call 19 (.cons (.v 0) (.cons (.lst (.cons (.c (.int 2)) (.cons (.c (.int 3)) (.cons (.c (.int 1)) (.cons (.ite (.cmp .Eq (.bi .sum (.cons (.v 1) .nil)) (.c (.int 1))) (.c (.int 8)) (.c (.int 4))) .nil))))) .nil)))) (.cons (.asg (.n 7) (.comp false (.n 10) (.v 1) (.op .Mult (.call 18 (.cons (.v 0) (.cons (.op .Add (.v 6) (.c (.int 1))) .nil))) (.v 10)))) (.cons (.asg (.n 8) (.op .Add (.c (.int 1)) (.call 18 (.cons (.v 0) (.cons (.call 19 (.cons (.v 0) (.cons (.lst (.cons (.c (.int 1)) (.cons (.c (.int 3)) (.cons (.c (.int 30)) (.cons (.ite (.cmp .Eq (.bi .sum (.cons (.v 1) .nil)) (.c (.int 1))) (.op .Pow (.c (.int 10)) (.c (.int 6))) (.c (.int 9))) .nil))))) .nil))) .nil))))) (.cons (.asg (.n 9) (.op .Mult (.v 8) (.call 20 (.cons (.c (.int 2)) (.cons (.bi .sum (.cons (.v 7) .nil)) .nil))))) (.cons (.ifs (.cmp .LtE (.op .Add (.v 4) (.v 9)) (.v 2)) (.cons (.asg (.n 4) (.op .Add (.v 4) (.v 9))) (.cons (.ex (.meth .append (.v 3) (.cons (.tup (.cons (.v 7) (.cons (.v 8) .nil))) .nil))) .nil)) .nil) .nil)))))) (.cons (.ret (.frz 3)) .nil)))
def d__law_terms : DefI := ⟨"_law_terms", ["sack", "choice"], ["sack", "choice", "most", "found", "total", "turn", "far", "powers", "share", "worth", "sign"], ⟨2, 11, b__law_terms⟩, defArgs (top 35), defBody (top 35), defScope (top 35)⟩
def b__law_worth : Ss := (.cons (.asg (.n 2) (.c (.int 0))) (.cons (.for (.t [3, 4]) (.v 0) (.cons (.asg (.n 5) (.v 4)) (.cons (.for (.t [6, 7]) (.zipT (.v 1) (.v 3)) (.cons (.asg (.n 5) (.op .Mult (.v 5) (.call 20 (.cons (.v 6) (.cons (.v 7) .nil))))) .nil)) (.cons (.asg (.n 2) (.op .Add (.v 2) (.v 5))) .nil)))) (.cons (.ret (.v 2)) .nil)))
def d__law_worth : DefI := ⟨"_law_worth", ["terms", "numbers"], ["terms", "numbers", "total", "powers", "share", "part", "number", "times"], ⟨2, 8, b__law_worth⟩, defArgs (top 36), defBody (top 36), defScope (top 36)⟩
def b__law_second : Ss := (.cons (.asg (.n 2) (.c (.int 0))) (.cons (.wh (.cmp .LtE (.call 20 (.cons (.c (.int 2)) (.cons (.op .Add (.v 2) (.c (.int 1))) .nil))) (.v 1)) (.cons (.asg (.n 2) (.op .Add (.v 2) (.c (.int 1)))) .nil)) (.cons (.par [3, 4] (.cons (.new .nil) (.cons (.c (.int 1)) .nil))) (.cons (.for (.n 5) (.v 0) (.cons (.ex (.meth .append (.v 3) (.cons (.ite (.cmp .Eq (.v 5) (.c (.int 1))) (.call 20 (.cons (.op .Add (.v 1) (.c (.int 1))) (.cons (.v 4) .nil))) (.c (.int 0))) .nil))) (.cons (.ifs (.cmp .Eq (.v 5) (.c (.int 1))) (.cons (.asg (.n 4) (.op .Mult (.v 4) (.op .Add (.v 2) (.c (.int 1))))) .nil) .nil) .nil))) (.cons (.ret (.bi .tuple (.cons (.v 3) .nil))) .nil)))))
def d__law_second : DefI := ⟨"_law_second", ["choice", "value"], ["choice", "value", "greatest", "found", "times", "sign"], ⟨2, 6, b__law_second⟩, defArgs (top 37), defBody (top 37), defScope (top 37)⟩
def b__law_asks : Ss := (.cons (.asg (.n 2) (.bi .tuple (.cons (.comp false (.n 4) (.v 0) (.op .Mult (.c (.int 2)) (.v 4))) .nil))) (.cons (.asg (.n 3) (.call 23 (.cons (.v 1) (.cons (.v 2) .nil)))) (.cons (.ret (.ite (.or (.cmp .Eq (.bi .sum (.cons (.v 0) .nil)) (.c (.int 0))) (.cmp .Lt (.v 3) (.c (.int 2)))) (.lst (.cons (.v 2) .nil)) (.lst (.cons (.v 2) (.cons (.call 24 (.cons (.v 0) (.cons (.v 3) .nil))) .nil))))) .nil)))
def d__law_asks : DefI := ⟨"_law_asks", ["choice", "terms"], ["choice", "terms", "first", "value", "sign"], ⟨2, 5, b__law_asks⟩, defArgs (top 38), defBody (top 38), defScope (top 38)⟩
def b__law_is_numbers : Ss := (.cons (.ifs (.or (.not (.isi (.v 0) [.tuple])) (.cmp .NotEq (.bi .list (.cons (.v 0) .nil)) (.bi .list (.cons (.v 1) .nil)))) (.cons (.ret (.c (.bl false))) .nil) .nil) (.cons (.ret (.cmp .Eq (.compI false (.n 2) (.v 0) (.or (.isi (.v 2) [.bool]) (.not (.isi (.v 2) [.int]))) (.v 2)) (.lst .nil))) .nil))
def d__law_is_numbers : DefI := ⟨"_law_is_numbers", ["told", "due"], ["told", "due", "part"], ⟨2, 3, b__law_is_numbers⟩, defArgs (top 39), defBody (top 39), defScope (top 39)⟩
def b_law : Ss := (.cons (.asg (.n 1) (.call 17 (.cons (.v 0) .nil))) (.cons (.for (.n 2) (.rng (.c (.int 0)) (.c (.int 2))) (.cons (.asg (.n 3) (.call 19 (.cons (.v 1) (.cons (.lst (.cons (.c (.int 2)) (.cons (.c (.int 1)) (.cons (.c (.int 3)) (.cons (.c (.int 2)) (.cons (.c (.int 0)) .nil)))))) .nil)))) (.cons (.par [4, 5] (.cons (.new .nil) (.cons (.new .nil) .nil))) (.cons (.for (.n 6) (.call 21 (.cons (.v 3) .nil)) (.cons (.asg (.n 9) (.call 22 (.cons (.v 1) (.cons (.v 6) .nil)))) (.cons (.for (.n 10) (.call 25 (.cons (.v 6) (.cons (.v 9) .nil))) (.cons (.ex (.meth .append (.v 4) (.cons (.v 10) .nil))) (.cons (.ex (.meth .append (.v 5) (.cons (.tup (.cons (.ite (.cmp .Eq (.call 18 (.cons (.v 1) (.cons (.c (.int 2)) .nil))) (.c (.int 0))) (.bi .list (.cons (.v 10) .nil)) (.v 10)) (.cons (.call 23 (.cons (.v 9) (.cons (.v 10) .nil))) .nil))) .nil))) .nil))) .nil))) (.cons (.ifs (.cmp .Gt (.bi .len (.cons (.v 4) .nil)) (.op .Sub (.op .Mult (.c (.int 2)) (.call 20 (.cons (.c (.int 2)) (.cons (.v 3) .nil)))) (.c (.int 1)))) (.cons (.ret (.c (.bl false))) .nil) .nil) (.cons (.frz 5) (.cons (.asg (.n 7) (.comp false (.t [10, 11]) (.v 5) (.tup (.cons (.bi .tuple (.cons (.v 10) .nil)) (.cons (.v 11) .nil))))) (.cons (.for (.n 8) (.rng (.c (.int 0)) (.bi .len (.cons (.v 4) .nil))) (.cons (.ifs (.not (.call 26 (.cons (.call 16 (.cons (.v 3) (.cons (.sl (.v 5) (.c .non) (.v 8)) .nil))) (.cons (.ix (.v 4) (.v 8)) .nil)))) (.cons (.ret (.c (.bl false))) .nil) .nil) .nil)) (.cons (.ifs (.cmp .IsNot (.callK 16 .nil (.cons (.bi .tuple (.cons (.comp false (.n 12) (.v 5) (.bi .list (.cons (.v 12) .nil))) .nil)) (.cons (.v 3) Es.nil)) [1, 0]) (.c .non)) (.cons (.ret (.c (.bl false))) .nil) .nil) (.cons (.ifs (.cmp .NotEq (.comp false (.t [10, 11]) (.v 5) (.tup (.cons (.bi .tuple (.cons (.v 10) .nil)) (.cons (.v 11) .nil)))) (.v 7)) (.cons (.ret (.c (.bl false))) .nil) .nil) .nil)))))))))) (.cons (.ret (.and (.cmp .Eq (.call 16 (.cons (.c (.int 0)) (.cons (.lst .nil) .nil))) (.tup .nil)) (.cmp .Eq (.call 16 (.cons (.c (.int 1)) (.cons (.lst (.cons (.tup (.cons (.tup (.cons (.c (.int 0)) .nil)) (.cons (.op .Pow (.c (.int 10)) (.c (.int 60))) .nil))) .nil)) .nil))) (.tup (.cons (.c (.int 2)) .nil))))) .nil)))
def d_law : DefI := ⟨"law", ["script"], ["script", "sack", "turn", "many", "asks", "answers", "choice", "kept", "asked", "terms", "numbers", "value", "answer"], ⟨1, 13, b_law⟩, defArgs (top 40), defBody (top 40), defScope (top 40)⟩
def Ds : List DefI := [d_is_integer, d_is_within, d_need_number, d_need_many, d_are_numbers, d_choices, d_is_answer, d_are_answers, d_raised, d_steps_of_places, d_spread, d_second_numbers, d_next_of, d_need_small, d_sorted_out, d_need_answers, d_next_ask, d__law_sack, d__law_take, d__law_pick, d__law_power, d__law_choices, d__law_terms, d__law_worth, d__law_second, d__law_asks, d__law_is_numbers, d_law]
theorem kw_next_ask_0_answers_many : KwOk d_next_ask 0 ["answers", "many"] [1, 0] := fun _ _ _ _ _ _ us ws h1 h2 => match us, ws, h1, h2 with | [], [_, _], _, _ => rfl
/-- what the top has left beside the defs -/
structure Zs (K : PySem.W.Frag) (mg : Str → Option Value) : Prop where
  g_FIRST : GlobOk K mg "FIRST" (.int 2)
  g_MOST_MANY : GlobOk K mg "MOST_MANY" (.int 3)
  g_MOST_VALUES : GlobOk K mg "MOST_VALUES" (.tup [.non, (.int 1000000000000000000), (.int 10000), (.int 200)])
  f_abs : mg "abs" = none
  f_all : mg "all" = none
  f_bool : mg "bool" = none
  f_int : mg "int" = none
  f_isinstance : mg "isinstance" = none
  f_len : mg "len" = none
  f_list : mg "list" = none
  f_range : mg "range" = none
  f_sorted : mg "sorted" = none
  f_sum : mg "sum" = none
  f_tuple : mg "tuple" = none
  f_zip : mg "zip" = none
section
variable {P : Program} {w : World} {K : PySem.W.Frag} {mg : Str → Option Value} {base : Heap} {k : Nat} {f : Addr} {cdv : Value} {A : Around} {outer : List PySem.Env} {s : Shared} {H : Hp}
theorem ok_is_integer (Z : Zs K mg) (B : BodyOk (BodyX P w K mg base ["value"] "is_integer" (defScope (top 8)) f cdv A outer s H) Ds 1000000 k) :
    PSs (BodyX P w K mg base ["value"] "is_integer" (defScope (top 8)) f cdv A outer s H) (defBody (top 8)) (tSs K (run (Fns Ds) 1000000 k) 1000000 b_is_integer) :=
  (ss_cons (s_ret (i_and (i_is1 (by rfl) Z.f_isinstance (i_v (i := 0) (by rfl) (by first | exact .inl rfl | exact .inr (.inl rfl) | exact .inr (.inr rfl))) (ty_ok (t := .int) (by rfl) Z.f_int boot_int)) (i_one (i_not (i_is1 (by rfl) Z.f_isinstance (i_v (i := 0) (by rfl) (by first | exact .inl rfl | exact .inr (.inl rfl) | exact .inr (.inr rfl))) (ty_ok (t := .bool) (by rfl) Z.f_bool boot_bool)))))) ss_nil)
theorem ok_is_within (Z : Zs K mg) (B : BodyOk (BodyX P w K mg base ["value", "least", "most"] "is_within" (defScope (top 9)) f cdv A outer s H) Ds 1000000 k) :
    PSs (BodyX P w K mg base ["value", "least", "most"] "is_within" (defScope (top 9)) f cdv A outer s H) (defBody (top 9)) (tSs K (run (Fns Ds) 1000000 k) 1000000 b_is_within) :=
  (ss_cons (s_if (t_w (w_or (t_not (t_e (i_call B.ok (by rfl) (B.call 0 d_is_integer rfl) (a_cons (i_v (i := 0) (by rfl) (by first | exact .inl rfl | exact .inr (.inl rfl) | exact .inr (.inr rfl))) a_nil)))) (w_or1 (t_w (w_and (t_cmp B.ok (i_v (i := 1) (by rfl) (by first | exact .inl rfl | exact .inr (.inl rfl) | exact .inr (.inr rfl))) i_non) (w_and1 (t_cmp B.ok (i_v (i := 0) (by rfl) (by first | exact .inl rfl | exact .inr (.inl rfl) | exact .inr (.inr rfl))) (i_v (i := 1) (by rfl) (by first | exact .inl rfl | exact .inr (.inl rfl) | exact .inr (.inr rfl)))))))))) (ss_cons (s_ret i_bl) ss_nil) ss_nil) (ss_cons (s_ret (i_or (i_cmp B.ok (i_v (i := 2) (by rfl) (by first | exact .inl rfl | exact .inr (.inl rfl) | exact .inr (.inr rfl))) i_non) (i_one (i_cmp B.ok (i_v (i := 0) (by rfl) (by first | exact .inl rfl | exact .inr (.inl rfl) | exact .inr (.inr rfl))) (i_v (i := 2) (by rfl) (by first | exact .inl rfl | exact .inr (.inl rfl) | exact .inr (.inr rfl))))))) ss_nil))
theorem ok_need_number (Z : Zs K mg) (B : BodyOk (BodyX P w K mg base ["value", "part", "least", "most"] "need_number" (defScope (top 10)) f cdv A outer s H) Ds 1000000 k) :
    PSs (BodyX P w K mg base ["value", "part", "least", "most"] "need_number" (defScope (top 10)) f cdv A outer s H) (defBody (top 10)) (tSs K (run (Fns Ds) 1000000 k) 1000000 b_need_number) :=
  (ss_cons (s_if (t_not (t_e (i_call B.ok (by rfl) (B.call 1 d_is_within rfl) (a_cons (i_v (i := 0) (by rfl) (by first | exact .inl rfl | exact .inr (.inl rfl) | exact .inr (.inr rfl))) (a_cons (i_v (i := 2) (by rfl) (by first | exact .inl rfl | exact .inr (.inl rfl) | exact .inr (.inr rfl))) (a_cons (i_v (i := 3) (by rfl) (by first | exact .inl rfl | exact .inr (.inl rfl) | exact .inr (.inr rfl))) a_nil)))))) (ss_cons s_never ss_nil) ss_nil) ss_nil)
theorem ok_need_many (Z : Zs K mg) (B : BodyOk (BodyX P w K mg base ["value"] "need_many" (defScope (top 11)) f cdv A outer s H) Ds 1000000 k) :
    PSs (BodyX P w K mg base ["value"] "need_many" (defScope (top 11)) f cdv A outer s H) (defBody (top 11)) (tSs K (run (Fns Ds) 1000000 k) 1000000 b_need_many) :=
  (ss_cons (s_ex (i_call B.ok (by rfl) (B.call 2 d_need_number rfl) (a_cons (i_v (i := 0) (by rfl) (by first | exact .inl rfl | exact .inr (.inl rfl) | exact .inr (.inr rfl))) (a_cons i_str (a_cons i_int (a_cons (i_g (by rfl) Z.g_MOST_MANY) a_nil)))))) ss_nil)
theorem ok_are_numbers (Z : Zs K mg) (B : BodyOk (BodyX P w K mg base ["value", "part"] "are_numbers" (defScope (top 12)) f cdv A outer s H) Ds 1000000 k) :
    PSs (BodyX P w K mg base ["value", "part"] "are_numbers" (defScope (top 12)) f cdv A outer s H) (defBody (top 12)) (tSs K (run (Fns Ds) 1000000 k) 1000000 b_are_numbers) :=
  (ss_cons (s_ret (i_and (i_isT (by decide) (by rfl) Z.f_isinstance (i_v (i := 0) (by rfl) (by first | exact .inl rfl | exact .inr (.inl rfl) | exact .inr (.inr rfl))) (tys_cons (ty_ok (t := .list) (by rfl) Z.f_list boot_list) (tys_cons (ty_ok (t := .tuple) (by rfl) Z.f_tuple boot_tuple) tys_nil))) (i_one (i_biB B.ok (b := .all) rfl (by rfl) Z.f_all boot_all (a_cons (i_comp B.ok rfl (it_e (i_v (i := 0) (by rfl) (by first | exact .inl rfl | exact .inr (.inl rfl) | exact .inr (.inr rfl)))) (blkOk_by (N := ["value", "part"]) (sc := (defScope (top 12))) (own := [("part", 1)]) (by decide +kernel)) (fun _ _ _ _ _ => (g_n (i := 1) (cok_blk B.ok) rfl (by first | exact .inl rfl | exact .inr rfl) (by first | exact .inl rfl | exact .inr rfl))) (fun _ _ _ _ _ => (i_call (cok_blk B.ok) (by rfl) (call_blk (B.call 1 d_is_within rfl)) (a_cons (i_v (i := 1) (by rfl) (by first | exact .inl rfl | exact .inr (.inl rfl) | exact .inr (.inr rfl))) (a_cons i_int (a_cons i_non a_nil)))))) a_nil))))) ss_nil)
theorem ok_choices (Z : Zs K mg) (B : BodyOk (BodyX P w K mg base ["many", "found", "_", "signs", "sign"] "choices" (defScope (top 14)) f cdv A outer s H) Ds 1000000 k) :
    PSs (BodyX P w K mg base ["many", "found", "_", "signs", "sign"] "choices" (defScope (top 14)) f cdv A outer s H) (defBody (top 14)) (tSs K (run (Fns Ds) 1000000 k) 1000000 b_choices) :=
  (ss_cons (s_ex (i_call B.ok (by rfl) (B.call 3 d_need_many rfl) (a_cons (i_v (i := 0) (by rfl) (by first | exact .inl rfl | exact .inr (.inl rfl) | exact .inr (.inr rfl))) a_nil))) (ss_cons (s_set (i := 1) B.ok rfl (by first | exact .inl rfl | exact .inr rfl) (i_lst (a_cons (i_tup a_nil) a_nil)) rfl (by first | exact .inl rfl | exact .inr rfl)) (ss_cons (s_for B.ok PassesOwn.never (it_rng1 (by rfl) Z.f_range (i_v (i := 0) (by rfl) (by first | exact .inl rfl | exact .inr (.inl rfl) | exact .inr (.inr rfl)))) (g_n (i := 2) B.ok rfl (by first | exact .inl rfl | exact .inr rfl) (by first | exact .inl rfl | exact .inr rfl)) (ss_cons (s_setLc2 (i := 1) B.ok rfl rfl (sw_true rfl rfl rfl (by decide +kernel)) rfl (it_e (i_v (i := 1) (by rfl) (by first | exact .inl rfl | exact .inr (.inl rfl) | exact .inr (.inr rfl)))) (blkOk_by (N := ["many", "found", "_", "signs", "sign"]) (sc := (defScope (top 14))) (own := [("signs", 3), ("sign", 4)]) (by decide +kernel)) (fun _ _ _ _ _ => (g_n (i := 3) (cok_blk B.ok) rfl (by first | exact .inl rfl | exact .inr rfl) (by first | exact .inl rfl | exact .inr rfl))) (fun _ _ _ _ _ => (it_e (i_tup (a_cons i_int (a_cons i_int a_nil))))) (fun _ _ _ _ _ => (g_n (i := 4) (cok_blk B.ok) rfl (by first | exact .inl rfl | exact .inr rfl) (by first | exact .inl rfl | exact .inr rfl))) (fun _ _ _ _ _ => (i_tup (a_star (i_v (i := 3) (by rfl) (by first | exact .inl rfl | exact .inr (.inl rfl) | exact .inr (.inr rfl))) (a_cons (i_v (i := 4) (by rfl) (by first | exact .inl rfl | exact .inr (.inl rfl) | exact .inr (.inr rfl))) a_nil))))) ss_nil)) (ss_cons (s_ret (i_biT B.ok (b := .tuple) rfl (by rfl) Z.f_tuple boot_tuple (a_cons (i_v (i := 1) (by rfl) (by first | exact .inl rfl | exact .inr (.inl rfl) | exact .inr (.inr rfl))) a_nil))) ss_nil))))
theorem ok_is_answer (Z : Zs K mg) (B : BodyOk (BodyX P w K mg base ["value", "many"] "is_answer" (defScope (top 18)) f cdv A outer s H) Ds 1000000 k) :
    PSs (BodyX P w K mg base ["value", "many"] "is_answer" (defScope (top 18)) f cdv A outer s H) (defBody (top 18)) (tSs K (run (Fns Ds) 1000000 k) 1000000 b_is_answer) :=
  (ss_cons (s_if (t_w (w_or (t_not (t_e (i_isT (by decide) (by rfl) Z.f_isinstance (i_v (i := 0) (by rfl) (by first | exact .inl rfl | exact .inr (.inl rfl) | exact .inr (.inr rfl))) (tys_cons (ty_ok (t := .list) (by rfl) Z.f_list boot_list) (tys_cons (ty_ok (t := .tuple) (by rfl) Z.f_tuple boot_tuple) tys_nil))))) (w_or1 (t_cmp B.ok (i_biB B.ok (b := .len) rfl (by rfl) Z.f_len boot_len (a_cons (i_v (i := 0) (by rfl) (by first | exact .inl rfl | exact .inr (.inl rfl) | exact .inr (.inr rfl))) a_nil)) i_int)))) (ss_cons (s_ret i_bl) ss_nil) ss_nil) (ss_cons (s_ret (i_and (i_call B.ok (by rfl) (B.call 4 d_are_numbers rfl) (a_cons (i_ix (i_v (i := 0) (by rfl) (by first | exact .inl rfl | exact .inr (.inl rfl) | exact .inr (.inr rfl))) i_int) a_nil)) (i_and (i_cmp B.ok (i_biB B.ok (b := .len) rfl (by rfl) Z.f_len boot_len (a_cons (i_ix (i_v (i := 0) (by rfl) (by first | exact .inl rfl | exact .inr (.inl rfl) | exact .inr (.inr rfl))) i_int) a_nil)) (i_v (i := 1) (by rfl) (by first | exact .inl rfl | exact .inr (.inl rfl) | exact .inr (.inr rfl)))) (i_one (i_call B.ok (by rfl) (B.call 1 d_is_within rfl) (a_cons (i_ix (i_v (i := 0) (by rfl) (by first | exact .inl rfl | exact .inr (.inl rfl) | exact .inr (.inr rfl))) i_int) (a_cons i_int (a_cons i_non a_nil)))))))) ss_nil))
theorem ok_are_answers (Z : Zs K mg) (B : BodyOk (BodyX P w K mg base ["value", "many", "each"] "are_answers" (defScope (top 19)) f cdv A outer s H) Ds 1000000 k) :
    PSs (BodyX P w K mg base ["value", "many", "each"] "are_answers" (defScope (top 19)) f cdv A outer s H) (defBody (top 19)) (tSs K (run (Fns Ds) 1000000 k) 1000000 b_are_answers) :=
  (ss_cons (s_ret (i_and (i_isT (by decide) (by rfl) Z.f_isinstance (i_v (i := 0) (by rfl) (by first | exact .inl rfl | exact .inr (.inl rfl) | exact .inr (.inr rfl))) (tys_cons (ty_ok (t := .list) (by rfl) Z.f_list boot_list) (tys_cons (ty_ok (t := .tuple) (by rfl) Z.f_tuple boot_tuple) tys_nil))) (i_one (i_biB B.ok (b := .all) rfl (by rfl) Z.f_all boot_all (a_cons (i_comp B.ok rfl (it_e (i_v (i := 0) (by rfl) (by first | exact .inl rfl | exact .inr (.inl rfl) | exact .inr (.inr rfl)))) (blkOk_by (N := ["value", "many", "each"]) (sc := (defScope (top 19))) (own := [("each", 2)]) (by decide +kernel)) (fun _ _ _ _ _ => (g_n (i := 2) (cok_blk B.ok) rfl (by first | exact .inl rfl | exact .inr rfl) (by first | exact .inl rfl | exact .inr rfl))) (fun _ _ _ _ _ => (i_call (cok_blk B.ok) (by rfl) (call_blk (B.call 6 d_is_answer rfl)) (a_cons (i_v (i := 2) (by rfl) (by first | exact .inl rfl | exact .inr (.inl rfl) | exact .inr (.inr rfl))) (a_cons (i_v (i := 1) (by rfl) (by first | exact .inl rfl | exact .inr (.inl rfl) | exact .inr (.inr rfl))) a_nil))))) a_nil))))) ss_nil)
theorem ok_raised (Z : Zs K mg) (B : BodyOk (BodyX P w K mg base ["number", "times", "found", "_"] "raised" (defScope (top 20)) f cdv A outer s H) Ds 1000000 k) :
    PSs (BodyX P w K mg base ["number", "times", "found", "_"] "raised" (defScope (top 20)) f cdv A outer s H) (defBody (top 20)) (tSs K (run (Fns Ds) 1000000 k) 1000000 b_raised) :=
  (ss_cons (s_set (i := 2) B.ok rfl (by first | exact .inl rfl | exact .inr rfl) i_int rfl (by first | exact .inl rfl | exact .inr rfl)) (ss_cons (s_for B.ok PassesOwn.never (it_rng1 (by rfl) Z.f_range (i_v (i := 1) (by rfl) (by first | exact .inl rfl | exact .inr (.inl rfl) | exact .inr (.inr rfl)))) (g_n (i := 3) B.ok rfl (by first | exact .inl rfl | exact .inr rfl) (by first | exact .inl rfl | exact .inr rfl)) (ss_cons (s_set (i := 2) B.ok rfl (by first | exact .inl rfl | exact .inr rfl) (i_op (i_v (i := 2) (by rfl) (by first | exact .inl rfl | exact .inr (.inl rfl) | exact .inr (.inr rfl))) (i_v (i := 0) (by rfl) (by first | exact .inl rfl | exact .inr (.inl rfl) | exact .inr (.inr rfl)))) rfl (by first | exact .inl rfl | exact .inr rfl)) ss_nil)) (ss_cons (s_ret (i_v (i := 2) (by rfl) (by first | exact .inl rfl | exact .inr (.inl rfl) | exact .inr (.inr rfl)))) ss_nil)))
theorem ok_steps_of_places (Z : Zs K mg) (B : BodyOk (BodyX P w K mg base ["value"] "steps_of_places" (defScope (top 21)) f cdv A outer s H) Ds 1000000 k) :
    PSs (BodyX P w K mg base ["value"] "steps_of_places" (defScope (top 21)) f cdv A outer s H) (defBody (top 21)) (tSs K (run (Fns Ds) 1000000 k) 1000000 b_steps_of_places) :=
  (ss_cons (s_ret (i_bits (i_v (i := 0) (by rfl) (by first | exact .inl rfl | exact .inr (.inl rfl) | exact .inr (.inr rfl))))) ss_nil)
theorem ok_spread (Z : Zs K mg) (B : BodyOk (BodyX P w K mg base ["choice", "wanted", "found", "spot", "sign"] "spread" (defScope (top 22)) f cdv A outer s H) Ds 1000000 k) :
    PSs (BodyX P w K mg base ["choice", "wanted", "found", "spot", "sign"] "spread" (defScope (top 22)) f cdv A outer s H) (defBody (top 22)) (tSs K (run (Fns Ds) 1000000 k) 1000000 b_spread) :=
  (ss_cons (s_par2 (i := 2) (j := 3) B.ok rfl rfl (by decide) rfl rfl (a_cons (i_new a_nil) (a_cons i_int a_nil)) rfl) (ss_cons (s_for B.ok PassesOwn.never (it_e (i_v (i := 0) (by rfl) (by first | exact .inl rfl | exact .inr (.inl rfl) | exact .inr (.inr rfl)))) (g_n (i := 4) B.ok rfl (by first | exact .inl rfl | exact .inr rfl) (by first | exact .inl rfl | exact .inr rfl)) (ss_cons (s_ex (i_me mf_append (i_v (i := 2) (by rfl) (by first | exact .inl rfl | exact .inr (.inl rfl) | exact .inr (.inr rfl))) (a_cons (i_ite (t_cmp B.ok (i_v (i := 4) (by rfl) (by first | exact .inl rfl | exact .inr (.inl rfl) | exact .inr (.inr rfl))) i_int) (i_ix (i_v (i := 1) (by rfl) (by first | exact .inl rfl | exact .inr (.inl rfl) | exact .inr (.inr rfl))) (i_v (i := 3) (by rfl) (by first | exact .inl rfl | exact .inr (.inl rfl) | exact .inr (.inr rfl)))) i_int) a_nil))) (ss_cons (s_set (i := 3) B.ok rfl (by first | exact .inl rfl | exact .inr rfl) (i_op (i_v (i := 3) (by rfl) (by first | exact .inl rfl | exact .inr (.inl rfl) | exact .inr (.inr rfl))) (i_v (i := 4) (by rfl) (by first | exact .inl rfl | exact .inr (.inl rfl) | exact .inr (.inr rfl)))) rfl (by first | exact .inl rfl | exact .inr rfl)) ss_nil))) (ss_cons (s_ret (i_biT B.ok (b := .tuple) rfl (by rfl) Z.f_tuple boot_tuple (a_cons (i_v (i := 2) (by rfl) (by first | exact .inl rfl | exact .inr (.inl rfl) | exact .inr (.inr rfl))) a_nil))) ss_nil)))
theorem ok_second_numbers (Z : Zs K mg) (B : BodyOk (BodyX P w K mg base ["choice", "value", "wanted", "_"] "second_numbers" (defScope (top 23)) f cdv A outer s H) Ds 1000000 k) :
    PSs (BodyX P w K mg base ["choice", "value", "wanted", "_"] "second_numbers" (defScope (top 23)) f cdv A outer s H) (defBody (top 23)) (tSs K (run (Fns Ds) 1000000 k) 1000000 b_second_numbers) :=
  (ss_cons (s_set (i := 2) B.ok rfl (by first | exact .inl rfl | exact .inr rfl) (i_new (a_cons (i_op (i_v (i := 1) (by rfl) (by first | exact .inl rfl | exact .inr (.inl rfl) | exact .inr (.inr rfl))) i_int) a_nil)) rfl (by first | exact .inl rfl | exact .inr rfl)) (ss_cons (s_for B.ok PassesOwn.never (it_rng2 (by rfl) Z.f_range i_int (i_biB B.ok (b := .sum) rfl (by rfl) Z.f_sum boot_sum (a_cons (i_v (i := 0) (by rfl) (by first | exact .inl rfl | exact .inr (.inl rfl) | exact .inr (.inr rfl))) a_nil))) (g_n (i := 3) B.ok rfl (by first | exact .inl rfl | exact .inr rfl) (by first | exact .inl rfl | exact .inr rfl)) (ss_cons (s_ex (i_me mf_append (i_v (i := 2) (by rfl) (by first | exact .inl rfl | exact .inr (.inl rfl) | exact .inr (.inr rfl))) (a_cons (i_call B.ok (by rfl) (B.call 8 d_raised rfl) (a_cons (i_ix (i_v (i := 2) (by rfl) (by first | exact .inl rfl | exact .inr (.inl rfl) | exact .inr (.inr rfl))) (i_neg i_int)) (a_cons (i_call B.ok (by rfl) (B.call 9 d_steps_of_places rfl) (a_cons (i_v (i := 1) (by rfl) (by first | exact .inl rfl | exact .inr (.inl rfl) | exact .inr (.inr rfl))) a_nil)) a_nil))) a_nil))) ss_nil)) (ss_cons (s_ret (i_call B.ok (by rfl) (B.call 10 d_spread rfl) (a_cons (i_v (i := 0) (by rfl) (by first | exact .inl rfl | exact .inr (.inl rfl) | exact .inr (.inr rfl))) (a_cons (i_v (i := 2) (by rfl) (by first | exact .inl rfl | exact .inr (.inl rfl) | exact .inr (.inr rfl))) a_nil)))) ss_nil)))
theorem ok_next_of (Z : Zs K mg) (B : BodyOk (BodyX P w K mg base ["choice", "values"] "next_of" (defScope (top 24)) f cdv A outer s H) Ds 1000000 k) :
    PSs (BodyX P w K mg base ["choice", "values"] "next_of" (defScope (top 24)) f cdv A outer s H) (defBody (top 24)) (tSs K (run (Fns Ds) 1000000 k) 1000000 b_next_of) :=
  (ss_cons (s_if (t_cmp B.ok (i_v (i := 1) (by rfl) (by first | exact .inl rfl | exact .inr (.inl rfl) | exact .inr (.inr rfl))) (i_lst a_nil)) (ss_cons (s_ret (i_call B.ok (by rfl) (B.call 10 d_spread rfl) (a_cons (i_v (i := 0) (by rfl) (by first | exact .inl rfl | exact .inr (.inl rfl) | exact .inr (.inr rfl))) (a_cons (i_op (i_lst (a_cons (i_g (by rfl) Z.g_FIRST) a_nil)) (i_biB B.ok (b := .len) rfl (by rfl) Z.f_len boot_len (a_cons (i_v (i := 0) (by rfl) (by first | exact .inl rfl | exact .inr (.inl rfl) | exact .inr (.inr rfl))) a_nil))) a_nil)))) ss_nil) ss_nil) (ss_cons (s_if (t_w (w_or (t_cmp B.ok (i_biB B.ok (b := .sum) rfl (by rfl) Z.f_sum boot_sum (a_cons (i_v (i := 0) (by rfl) (by first | exact .inl rfl | exact .inr (.inl rfl) | exact .inr (.inr rfl))) a_nil)) i_int) (w_or (t_cmp B.ok (i_biB B.ok (b := .len) rfl (by rfl) Z.f_len boot_len (a_cons (i_v (i := 1) (by rfl) (by first | exact .inl rfl | exact .inr (.inl rfl) | exact .inr (.inr rfl))) a_nil)) i_int) (w_or1 (t_cmp B.ok (i_ix (i_v (i := 1) (by rfl) (by first | exact .inl rfl | exact .inr (.inl rfl) | exact .inr (.inr rfl))) i_int) i_int))))) (ss_cons (s_ret i_non) ss_nil) ss_nil) (ss_cons (s_ret (i_call B.ok (by rfl) (B.call 11 d_second_numbers rfl) (a_cons (i_v (i := 0) (by rfl) (by first | exact .inl rfl | exact .inr (.inl rfl) | exact .inr (.inr rfl))) (a_cons (i_ix (i_v (i := 1) (by rfl) (by first | exact .inl rfl | exact .inr (.inl rfl) | exact .inr (.inr rfl))) i_int) a_nil)))) ss_nil)))
theorem ok_need_small (Z : Zs K mg) (B : BodyOk (BodyX P w K mg base ["value", "above", "most"] "need_small" (defScope (top 25)) f cdv A outer s H) Ds 1000000 k) :
    PSs (BodyX P w K mg base ["value", "above", "most"] "need_small" (defScope (top 25)) f cdv A outer s H) (defBody (top 25)) (tSs K (run (Fns Ds) 1000000 k) 1000000 b_need_small) :=
  (ss_cons (s_set (i := 2) B.ok rfl (by first | exact .inl rfl | exact .inr rfl) (i_ix (i_g (by rfl) Z.g_MOST_VALUES) (i_v (i := 1) (by rfl) (by first | exact .inl rfl | exact .inr (.inl rfl) | exact .inr (.inr rfl)))) rfl (by first | exact .inl rfl | exact .inr rfl)) (ss_cons (s_if (t_w (w_and (t_cmp B.ok (i_v (i := 2) (by rfl) (by first | exact .inl rfl | exact .inr (.inl rfl) | exact .inr (.inr rfl))) i_non) (w_and1 (t_cmp B.ok (i_v (i := 0) (by rfl) (by first | exact .inl rfl | exact .inr (.inl rfl) | exact .inr (.inr rfl))) (i_v (i := 2) (by rfl) (by first | exact .inl rfl | exact .inr (.inl rfl) | exact .inr (.inr rfl))))))) (ss_cons s_never ss_nil) ss_nil) ss_nil))
theorem ok_sorted_out (Z : Zs K mg) (B : BodyOk (BodyX P w K mg base ["many", "answers", "waiting", "values", "wanted", "numbers", "value", "choice"] "sorted_out" (defScope (top 26)) f cdv A outer s H) Ds 1000000 k) :
    PSs (BodyX P w K mg base ["many", "answers", "waiting", "values", "wanted", "numbers", "value", "choice"] "sorted_out" (defScope (top 26)) f cdv A outer s H) (defBody (top 26)) (tSs K (run (Fns Ds) 1000000 k) 1000000 b_sorted_out) :=
  (ss_cons (s_par2 (i := 2) (j := 3) B.ok rfl rfl (by decide) rfl rfl (a_cons (i_call B.ok (by rfl) (B.call 5 d_choices rfl) (a_cons (i_v (i := 0) (by rfl) (by first | exact .inl rfl | exact .inr (.inl rfl) | exact .inr (.inr rfl))) a_nil)) (a_cons (i_new (a_cons (i_new a_nil) a_nil)) a_nil)) rfl) (ss_cons (s_set (i := 4) B.ok rfl (by first | exact .inl rfl | exact .inr rfl) (i_call B.ok (by rfl) (B.call 12 d_next_of rfl) (a_cons (i_ix (i_v (i := 2) (by rfl) (by first | exact .inl rfl | exact .inr (.inl rfl) | exact .inr (.inr rfl))) i_int) (a_cons (i_lst a_nil) a_nil))) rfl (by first | exact .inl rfl | exact .inr rfl)) (ss_cons (s_for B.ok PassesOwn.never (it_e (i_v (i := 1) (by rfl) (by first | exact .inl rfl | exact .inr (.inl rfl) | exact .inr (.inr rfl)))) (g_t B.ok (.cons (i := 5) rfl (by first | exact .inl rfl | exact .inr rfl) (by first | exact .inl rfl | exact .inr rfl) (.cons (i := 6) rfl (by first | exact .inl rfl | exact .inr rfl) (by first | exact .inl rfl | exact .inr rfl) .nil))) (ss_cons (s_if (t_w (w_or (t_cmp B.ok (i_v (i := 4) (by rfl) (by first | exact .inl rfl | exact .inr (.inl rfl) | exact .inr (.inr rfl))) i_non) (w_or1 (t_cmp B.ok (i_biT B.ok (b := .tuple) rfl (by rfl) Z.f_tuple boot_tuple (a_cons (i_v (i := 5) (by rfl) (by first | exact .inl rfl | exact .inr (.inl rfl) | exact .inr (.inr rfl))) a_nil)) (i_v (i := 4) (by rfl) (by first | exact .inl rfl | exact .inr (.inl rfl) | exact .inr (.inr rfl))))))) (ss_cons s_never ss_nil) ss_nil) (ss_cons (s_set (i := 7) B.ok rfl (by first | exact .inl rfl | exact .inr rfl) (i_ix (i_v (i := 2) (by rfl) (by first | exact .inl rfl | exact .inr (.inl rfl) | exact .inr (.inr rfl))) (i_op (i_biB B.ok (b := .len) rfl (by rfl) Z.f_len boot_len (a_cons (i_v (i := 3) (by rfl) (by first | exact .inl rfl | exact .inr (.inl rfl) | exact .inr (.inr rfl))) a_nil)) i_int)) rfl (by first | exact .inl rfl | exact .inr rfl)) (ss_cons (s_if (t_cmp B.ok (i_ix (i_v (i := 3) (by rfl) (by first | exact .inl rfl | exact .inr (.inl rfl) | exact .inr (.inr rfl))) (i_neg i_int)) (i_lst a_nil)) (ss_cons (s_ex (i_call B.ok (by rfl) (B.call 13 d_need_small rfl) (a_cons (i_v (i := 6) (by rfl) (by first | exact .inl rfl | exact .inr (.inl rfl) | exact .inr (.inr rfl))) (a_cons (i_biB B.ok (b := .sum) rfl (by rfl) Z.f_sum boot_sum (a_cons (i_v (i := 7) (by rfl) (by first | exact .inl rfl | exact .inr (.inl rfl) | exact .inr (.inr rfl))) a_nil)) a_nil)))) ss_nil) ss_nil) (ss_cons (s_ex (i_me mf_append (i_ix (i_v (i := 3) (by rfl) (by first | exact .inl rfl | exact .inr (.inl rfl) | exact .inr (.inr rfl))) (i_neg i_int)) (a_cons (i_v (i := 6) (by rfl) (by first | exact .inl rfl | exact .inr (.inl rfl) | exact .inr (.inr rfl))) a_nil))) (ss_cons (s_set (i := 4) B.ok rfl (by first | exact .inl rfl | exact .inr rfl) (i_call B.ok (by rfl) (B.call 12 d_next_of rfl) (a_cons (i_v (i := 7) (by rfl) (by first | exact .inl rfl | exact .inr (.inl rfl) | exact .inr (.inr rfl))) (a_cons (i_ix (i_v (i := 3) (by rfl) (by first | exact .inl rfl | exact .inr (.inl rfl) | exact .inr (.inr rfl))) (i_neg i_int)) a_nil))) rfl (by first | exact .inl rfl | exact .inr rfl)) (ss_cons (s_if (t_w (w_and (t_cmp B.ok (i_v (i := 4) (by rfl) (by first | exact .inl rfl | exact .inr (.inl rfl) | exact .inr (.inr rfl))) i_non) (w_and1 (t_cmp B.ok (i_biB B.ok (b := .len) rfl (by rfl) Z.f_len boot_len (a_cons (i_v (i := 3) (by rfl) (by first | exact .inl rfl | exact .inr (.inl rfl) | exact .inr (.inr rfl))) a_nil)) (i_biB B.ok (b := .len) rfl (by rfl) Z.f_len boot_len (a_cons (i_v (i := 2) (by rfl) (by first | exact .inl rfl | exact .inr (.inl rfl) | exact .inr (.inr rfl))) a_nil)))))) (ss_cons (s_set (i := 4) B.ok rfl (by first | exact .inl rfl | exact .inr rfl) (i_call B.ok (by rfl) (B.call 12 d_next_of rfl) (a_cons (i_ix (i_v (i := 2) (by rfl) (by first | exact .inl rfl | exact .inr (.inl rfl) | exact .inr (.inr rfl))) (i_biB B.ok (b := .len) rfl (by rfl) Z.f_len boot_len (a_cons (i_v (i := 3) (by rfl) (by first | exact .inl rfl | exact .inr (.inl rfl) | exact .inr (.inr rfl))) a_nil))) (a_cons (i_lst a_nil) a_nil))) rfl (by first | exact .inl rfl | exact .inr rfl)) (ss_cons (s_ex (i_me mf_append (i_v (i := 3) (by rfl) (by first | exact .inl rfl | exact .inr (.inl rfl) | exact .inr (.inr rfl))) (a_cons (i_new a_nil) a_nil))) ss_nil)) ss_nil) ss_nil))))))) (ss_cons (s_ret (i_tup (a_cons (i_v (i := 3) (by rfl) (by first | exact .inl rfl | exact .inr (.inl rfl) | exact .inr (.inr rfl))) (a_cons (i_v (i := 4) (by rfl) (by first | exact .inl rfl | exact .inr (.inl rfl) | exact .inr (.inr rfl))) a_nil)))) ss_nil))))
theorem ok_need_answers (Z : Zs K mg) (B : BodyOk (BodyX P w K mg base ["many", "answers"] "need_answers" (defScope (top 27)) f cdv A outer s H) Ds 1000000 k) :
    PSs (BodyX P w K mg base ["many", "answers"] "need_answers" (defScope (top 27)) f cdv A outer s H) (defBody (top 27)) (tSs K (run (Fns Ds) 1000000 k) 1000000 b_need_answers) :=
  (ss_cons (s_ex (i_call B.ok (by rfl) (B.call 3 d_need_many rfl) (a_cons (i_v (i := 0) (by rfl) (by first | exact .inl rfl | exact .inr (.inl rfl) | exact .inr (.inr rfl))) a_nil))) (ss_cons (s_if (t_not (t_e (i_call B.ok (by rfl) (B.call 7 d_are_answers rfl) (a_cons (i_v (i := 1) (by rfl) (by first | exact .inl rfl | exact .inr (.inl rfl) | exact .inr (.inr rfl))) (a_cons (i_v (i := 0) (by rfl) (by first | exact .inl rfl | exact .inr (.inl rfl) | exact .inr (.inr rfl))) a_nil))))) (ss_cons s_never ss_nil) ss_nil) ss_nil))
theorem ok_next_ask (Z : Zs K mg) (B : BodyOk (BodyX P w K mg base ["many", "answers"] "next_ask" (defScope (top 28)) f cdv A outer s H) Ds 1000000 k) :
    PSs (BodyX P w K mg base ["many", "answers"] "next_ask" (defScope (top 28)) f cdv A outer s H) (defBody (top 28)) (tSs K (run (Fns Ds) 1000000 k) 1000000 b_next_ask) :=
  (ss_cons (s_ex (i_call B.ok (by rfl) (B.call 15 d_need_answers rfl) (a_cons (i_v (i := 0) (by rfl) (by first | exact .inl rfl | exact .inr (.inl rfl) | exact .inr (.inr rfl))) (a_cons (i_v (i := 1) (by rfl) (by first | exact .inl rfl | exact .inr (.inl rfl) | exact .inr (.inr rfl))) a_nil)))) (ss_cons (s_ret (i_ix (i_call B.ok (by rfl) (B.call 14 d_sorted_out rfl) (a_cons (i_v (i := 0) (by rfl) (by first | exact .inl rfl | exact .inr (.inl rfl) | exact .inr (.inr rfl))) (a_cons (i_v (i := 1) (by rfl) (by first | exact .inl rfl | exact .inr (.inl rfl) | exact .inr (.inr rfl))) a_nil))) i_int)) ss_nil))
theorem ok__law_sack (Z : Zs K mg) (B : BodyOk (BodyX P w K mg base ["script", "cell"] "_law_sack" (defScope (top 30)) f cdv A outer s H) Ds 1000000 k) :
    PSs (BodyX P w K mg base ["script", "cell"] "_law_sack" (defScope (top 30)) f cdv A outer s H) (defBody (top 30)) (tSs K (run (Fns Ds) 1000000 k) 1000000 b__law_sack) :=
  (ss_cons (s_ret (i_new (a_cons (i_comp B.ok rfl (it_e (i_sl (i_v (i := 0) (by rfl) (by first | exact .inl rfl | exact .inr (.inl rfl) | exact .inr (.inr rfl))) o_none (o_some i_int))) (blkOk_by (N := ["script", "cell"]) (sc := (defScope (top 30))) (own := [("cell", 1)]) (by decide +kernel)) (fun _ _ _ _ _ => (g_n (i := 1) (cok_blk B.ok) rfl (by first | exact .inl rfl | exact .inr rfl) (by first | exact .inl rfl | exact .inr rfl))) (fun _ _ _ _ _ => (i_biT (cok_blk B.ok) (b := .int) rfl (by rfl) Z.f_int boot_int (a_cons (i_v (i := 1) (by rfl) (by first | exact .inl rfl | exact .inr (.inl rfl) | exact .inr (.inr rfl))) a_nil)))) (a_cons i_int (a_cons i_int a_nil))))) ss_nil)
theorem ok__law_take (Z : Zs K mg) (B : BodyOk (BodyX P w K mg base ["sack", "many", "turn", "cell", "mixed", "rest"] "_law_take" (defScope (top 31)) f cdv A outer s H) Ds 1000000 k) :
    PSs (BodyX P w K mg base ["sack", "many", "turn", "cell", "mixed", "rest"] "_law_take" (defScope (top 31)) f cdv A outer s H) (defBody (top 31)) (tSs K (run (Fns Ds) 1000000 k) 1000000 b__law_take) :=
  (ss_cons (s_if (t_cmp B.ok (i_ix (i_v (i := 0) (by rfl) (by first | exact .inl rfl | exact .inr (.inl rfl) | exact .inr (.inr rfl))) i_int) i_int) (ss_cons (s_set (i := 5) B.ok rfl (by first | exact .inl rfl | exact .inr rfl) (i_ix (i_v (i := 0) (by rfl) (by first | exact .inl rfl | exact .inr (.inl rfl) | exact .inr (.inr rfl))) i_int) rfl (by first | exact .inl rfl | exact .inr rfl)) (ss_cons (s_put (i_v (i := 0) (by rfl) (by first | exact .inl rfl | exact .inr (.inl rfl) | exact .inr (.inr rfl))) i_int (i_op (i_biT B.ok (b := .int) rfl (by rfl) Z.f_int boot_int (a_cons (i_v (i := 5) (by rfl) (by first | exact .inl rfl | exact .inr (.inl rfl) | exact .inr (.inr rfl))) a_nil)) (i_v (i := 1) (by rfl) (by first | exact .inl rfl | exact .inr (.inl rfl) | exact .inr (.inr rfl))))) (ss_cons (s_ret (i_op (i_biT B.ok (b := .int) rfl (by rfl) Z.f_int boot_int (a_cons (i_v (i := 5) (by rfl) (by first | exact .inl rfl | exact .inr (.inl rfl) | exact .inr (.inr rfl))) a_nil)) (i_v (i := 1) (by rfl) (by first | exact .inl rfl | exact .inr (.inl rfl) | exact .inr (.inr rfl))))) ss_nil))) ss_nil) (ss_cons (s_set (i := 2) B.ok rfl (by first | exact .inl rfl | exact .inr rfl) (i_ix (i_v (i := 0) (by rfl) (by first | exact .inl rfl | exact .inr (.inl rfl) | exact .inr (.inr rfl))) i_int) rfl (by first | exact .inl rfl | exact .inr rfl)) (ss_cons (s_put (i_v (i := 0) (by rfl) (by first | exact .inl rfl | exact .inr (.inl rfl) | exact .inr (.inr rfl))) i_int (i_op (i_v (i := 2) (by rfl) (by first | exact .inl rfl | exact .inr (.inl rfl) | exact .inr (.inr rfl))) i_int)) (ss_cons (s_set (i := 3) B.ok rfl (by first | exact .inl rfl | exact .inr rfl) (i_op (i_op i_int (i_v (i := 2) (by rfl) (by first | exact .inl rfl | exact .inr (.inl rfl) | exact .inr (.inr rfl)))) i_int) rfl (by first | exact .inl rfl | exact .inr rfl)) (ss_cons (s_if (t_cmp B.ok (i_ix (i_v (i := 0) (by rfl) (by first | exact .inl rfl | exact .inr (.inl rfl) | exact .inr (.inr rfl))) i_int) (i_lst a_nil)) (ss_cons (s_set (i := 3) B.ok rfl (by first | exact .inl rfl | exact .inr rfl) (i_ix (i_ix (i_v (i := 0) (by rfl) (by first | exact .inl rfl | exact .inr (.inl rfl) | exact .inr (.inr rfl))) i_int) (i_op (i_biT B.ok (b := .int) rfl (by rfl) Z.f_int boot_int (a_cons (i_v (i := 2) (by rfl) (by first | exact .inl rfl | exact .inr (.inl rfl) | exact .inr (.inr rfl))) a_nil)) (i_biB B.ok (b := .len) rfl (by rfl) Z.f_len boot_len (a_cons (i_ix (i_v (i := 0) (by rfl) (by first | exact .inl rfl | exact .inr (.inl rfl) | exact .inr (.inr rfl))) i_int) a_nil)))) rfl (by first | exact .inl rfl | exact .inr rfl)) ss_nil) ss_nil) (ss_cons (s_if (t_w (w_and (t_cmp B.ok (i_v (i := 2) (by rfl) (by first | exact .inl rfl | exact .inr (.inl rfl) | exact .inr (.inr rfl))) (i_biB B.ok (b := .len) rfl (by rfl) Z.f_len boot_len (a_cons (i_ix (i_v (i := 0) (by rfl) (by first | exact .inl rfl | exact .inr (.inl rfl) | exact .inr (.inr rfl))) i_int) a_nil))) (w_and1 (t_cmp B.ok (i_biB B.ok (b := .abs) rfl (by rfl) Z.f_abs boot_abs (a_cons (i_v (i := 3) (by rfl) (by first | exact .inl rfl | exact .inr (.inl rfl) | exact .inr (.inr rfl))) a_nil)) (i_op i_int i_int))))) (ss_cons (s_set (i := 5) B.ok rfl (by first | exact .inl rfl | exact .inr rfl) (i_op (i_op i_int (i_op (i_biB B.ok (b := .abs) rfl (by rfl) Z.f_abs boot_abs (a_cons (i_v (i := 3) (by rfl) (by first | exact .inl rfl | exact .inr (.inl rfl) | exact .inr (.inr rfl))) a_nil)) (i_op i_int i_int))) (i_biT B.ok (b := .int) rfl (by rfl) Z.f_int boot_int (a_cons (i_cmp B.ok (i_v (i := 3) (by rfl) (by first | exact .inl rfl | exact .inr (.inl rfl) | exact .inr (.inr rfl))) i_int) a_nil))) rfl (by first | exact .inl rfl | exact .inr rfl)) (ss_cons (s_put (i_v (i := 0) (by rfl) (by first | exact .inl rfl | exact .inr (.inl rfl) | exact .inr (.inr rfl))) i_int (i_op (i_biT B.ok (b := .int) rfl (by rfl) Z.f_int boot_int (a_cons (i_v (i := 5) (by rfl) (by first | exact .inl rfl | exact .inr (.inl rfl) | exact .inr (.inr rfl))) a_nil)) (i_v (i := 1) (by rfl) (by first | exact .inl rfl | exact .inr (.inl rfl) | exact .inr (.inr rfl))))) (ss_cons (s_ret (i_op (i_biT B.ok (b := .int) rfl (by rfl) Z.f_int boot_int (a_cons (i_v (i := 5) (by rfl) (by first | exact .inl rfl | exact .inr (.inl rfl) | exact .inr (.inr rfl))) a_nil)) (i_v (i := 1) (by rfl) (by first | exact .inl rfl | exact .inr (.inl rfl) | exact .inr (.inr rfl))))) ss_nil))) ss_nil) (ss_cons (s_set (i := 4) B.ok rfl (by first | exact .inl rfl | exact .inr rfl) (i_op (i_biT B.ok (b := .int) rfl (by rfl) Z.f_int boot_int (a_cons (i_op (i_op (i_op (i_op (i_biT B.ok (b := .int) rfl (by rfl) Z.f_int boot_int (a_cons (i_v (i := 3) (by rfl) (by first | exact .inl rfl | exact .inr (.inl rfl) | exact .inr (.inr rfl))) a_nil)) i_int) (i_op i_int (i_v (i := 2) (by rfl) (by first | exact .inl rfl | exact .inr (.inl rfl) | exact .inr (.inr rfl))))) i_int) i_int) a_nil)) i_int) rfl (by first | exact .inl rfl | exact .inr rfl)) (ss_cons (s_set (i := 4) B.ok rfl (by first | exact .inl rfl | exact .inr rfl) (i_op (i_biT B.ok (b := .int) rfl (by rfl) Z.f_int boot_int (a_cons (i_op (i_op (i_op (i_op (i_v (i := 4) (by rfl) (by first | exact .inl rfl | exact .inr (.inl rfl) | exact .inr (.inr rfl))) (i_op (i_op i_int (i_v (i := 2) (by rfl) (by first | exact .inl rfl | exact .inr (.inl rfl) | exact .inr (.inr rfl)))) i_int)) (i_op (i_op i_int (i_v (i := 2) (by rfl) (by first | exact .inl rfl | exact .inr (.inl rfl) | exact .inr (.inr rfl)))) (i_v (i := 2) (by rfl) (by first | exact .inl rfl | exact .inr (.inl rfl) | exact .inr (.inr rfl))))) i_int) i_int) a_nil)) i_int) rfl (by first | exact .inl rfl | exact .inr rfl)) (ss_cons (s_ret (i_op (i_biT B.ok (b := .int) rfl (by rfl) Z.f_int boot_int (a_cons (i_op (i_v (i := 4) (by rfl) (by first | exact .inl rfl | exact .inr (.inl rfl) | exact .inr (.inr rfl))) i_int) a_nil)) (i_v (i := 1) (by rfl) (by first | exact .inl rfl | exact .inr (.inl rfl) | exact .inr (.inr rfl))))) ss_nil)))))))))
theorem ok__law_pick (Z : Zs K mg) (B : BodyOk (BodyX P w K mg base ["sack", "some"] "_law_pick" (defScope (top 32)) f cdv A outer s H) Ds 1000000 k) :
    PSs (BodyX P w K mg base ["sack", "some"] "_law_pick" (defScope (top 32)) f cdv A outer s H) (defBody (top 32)) (tSs K (run (Fns Ds) 1000000 k) 1000000 b__law_pick) :=
  (ss_cons (s_ret (i_ix (i_v (i := 1) (by rfl) (by first | exact .inl rfl | exact .inr (.inl rfl) | exact .inr (.inr rfl))) (i_call B.ok (by rfl) (B.call 18 d__law_take rfl) (a_cons (i_v (i := 0) (by rfl) (by first | exact .inl rfl | exact .inr (.inl rfl) | exact .inr (.inr rfl))) (a_cons (i_biB B.ok (b := .len) rfl (by rfl) Z.f_len boot_len (a_cons (i_v (i := 1) (by rfl) (by first | exact .inl rfl | exact .inr (.inl rfl) | exact .inr (.inr rfl))) a_nil)) a_nil))))) ss_nil)
theorem ok__law_power (Z : Zs K mg) (B : BodyOk (BodyX P w K mg base ["number", "times", "found", "turn"] "_law_power" (defScope (top 33)) f cdv A outer s H) Ds 1000000 k) :
    PSs (BodyX P w K mg base ["number", "times", "found", "turn"] "_law_power" (defScope (top 33)) f cdv A outer s H) (defBody (top 33)) (tSs K (run (Fns Ds) 1000000 k) 1000000 b__law_power) :=
  (ss_cons (s_set (i := 2) B.ok rfl (by first | exact .inl rfl | exact .inr rfl) i_int rfl (by first | exact .inl rfl | exact .inr rfl)) (ss_cons (s_for B.ok PassesOwn.never (it_rng1 (by rfl) Z.f_range (i_v (i := 1) (by rfl) (by first | exact .inl rfl | exact .inr (.inl rfl) | exact .inr (.inr rfl)))) (g_n (i := 3) B.ok rfl (by first | exact .inl rfl | exact .inr rfl) (by first | exact .inl rfl | exact .inr rfl)) (ss_cons (s_set (i := 2) B.ok rfl (by first | exact .inl rfl | exact .inr rfl) (i_op (i_v (i := 2) (by rfl) (by first | exact .inl rfl | exact .inr (.inl rfl) | exact .inr (.inr rfl))) (i_v (i := 0) (by rfl) (by first | exact .inl rfl | exact .inr (.inl rfl) | exact .inr (.inr rfl)))) rfl (by first | exact .inl rfl | exact .inr rfl)) ss_nil)) (ss_cons (s_ret (i_v (i := 2) (by rfl) (by first | exact .inl rfl | exact .inr (.inl rfl) | exact .inr (.inr rfl)))) ss_nil)))
theorem ok__law_choices (Z : Zs K mg) (B : BodyOk (BodyX P w K mg base ["many", "found", "turn", "choice"] "_law_choices" (defScope (top 34)) f cdv A outer s H) Ds 1000000 k) :
    PSs (BodyX P w K mg base ["many", "found", "turn", "choice"] "_law_choices" (defScope (top 34)) f cdv A outer s H) (defBody (top 34)) (tSs K (run (Fns Ds) 1000000 k) 1000000 b__law_choices) :=
  (ss_cons (s_set (i := 1) B.ok rfl (by first | exact .inl rfl | exact .inr rfl) (i_lst (a_cons (i_tup a_nil) a_nil)) rfl (by first | exact .inl rfl | exact .inr rfl)) (ss_cons (s_for B.ok PassesOwn.never (it_rng1 (by rfl) Z.f_range (i_v (i := 0) (by rfl) (by first | exact .inl rfl | exact .inr (.inl rfl) | exact .inr (.inr rfl)))) (g_n (i := 2) B.ok rfl (by first | exact .inl rfl | exact .inr rfl) (by first | exact .inl rfl | exact .inr rfl)) (ss_cons (s_set (i := 1) B.ok rfl (by first | exact .inl rfl | exact .inr rfl) (i_op (i_comp B.ok rfl (it_e (i_v (i := 1) (by rfl) (by first | exact .inl rfl | exact .inr (.inl rfl) | exact .inr (.inr rfl)))) (blkOk_by (N := ["many", "found", "turn", "choice"]) (sc := (defScope (top 34))) (own := [("choice", 3)]) (by decide +kernel)) (fun _ _ _ _ _ => (g_n (i := 3) (cok_blk B.ok) rfl (by first | exact .inl rfl | exact .inr rfl) (by first | exact .inl rfl | exact .inr rfl))) (fun _ _ _ _ _ => (i_op (i_v (i := 3) (by rfl) (by first | exact .inl rfl | exact .inr (.inl rfl) | exact .inr (.inr rfl))) (i_tup (a_cons i_int a_nil))))) (i_comp B.ok rfl (it_e (i_v (i := 1) (by rfl) (by first | exact .inl rfl | exact .inr (.inl rfl) | exact .inr (.inr rfl)))) (blkOk_by (N := ["many", "found", "turn", "choice"]) (sc := (defScope (top 34))) (own := [("choice", 3)]) (by decide +kernel)) (fun _ _ _ _ _ => (g_n (i := 3) (cok_blk B.ok) rfl (by first | exact .inl rfl | exact .inr rfl) (by first | exact .inl rfl | exact .inr rfl))) (fun _ _ _ _ _ => (i_op (i_v (i := 3) (by rfl) (by first | exact .inl rfl | exact .inr (.inl rfl) | exact .inr (.inr rfl))) (i_tup (a_cons i_int a_nil)))))) rfl (by first | exact .inl rfl | exact .inr rfl)) ss_nil)) (ss_cons (s_ret (i_biB B.ok (b := .sorted) rfl (by rfl) Z.f_sorted boot_sorted (a_cons (i_v (i := 1) (by rfl) (by first | exact .inl rfl | exact .inr (.inl rfl) | exact .inr (.inr rfl))) a_nil))) ss_nil)))
theorem ok__law_terms (Z : Zs K mg) (B : BodyOk (BodyX P w K mg base ["sack", "choice", "most", "found", "total", "turn", "far", "powers", "share", "worth", "sign"] "_law_terms" (defScope (top 35)) f cdv A outer s H) Ds 1000000 k) :
    PSs (BodyX P w K mg base ["sack", "choice", "most", "found", "total", "turn", "far", "powers", "share", "worth", "sign"] "_law_terms" (defScope (top 35)) f cdv A outer s H) (defBody (top 35)) (tSs K (run (Fns Ds) 1000000 k) 1000000 b__law_terms) :=
  (ss_cons (s_par3 (i := 2) (j := 3) (l := 4) B.ok rfl rfl rfl (by decide) (by decide) (by decide) rfl rfl rfl (a_cons (i_ix (i_lst (a_cons i_int (a_cons (i_op i_int i_int) (a_cons (i_op i_int i_int) (a_cons i_int a_nil))))) (i_biB B.ok (b := .sum) rfl (by rfl) Z.f_sum boot_sum (a_cons (i_v (i := 1) (by rfl) (by first | exact .inl rfl | exact .inr (.inl rfl) | exact .inr (.inr rfl))) a_nil))) (a_cons (i_new a_nil) (a_cons i_int a_nil))) rfl) (ss_cons (s_for B.ok PassesOwn.never (it_rng1 (by rfl) Z.f_range (i_call B.ok (by rfl) (B.call 18 d__law_take rfl) (a_cons (i_v (i := 0) (by rfl) (by first | exact .inl rfl | exact .inr (.inl rfl) | exact .inr (.inr rfl))) (a_cons i_int a_nil)))) (g_n (i := 5) B.ok rfl (by first | exact .inl rfl | exact .inr rfl) (by first | exact .inl rfl | exact .inr rfl)) (ss_cons (s_set (i := 6) B.ok rfl (by first | exact .inl rfl | exact .inr rfl) (i_call B.ok (by rfl) (B.call 19 d__law_pick rfl) (a_cons (i_v (i := 0) (by rfl) (by first | exact .inl rfl | exact .inr (.inl rfl) | exact .inr (.inr rfl))) (a_cons (i_lst (a_cons i_int (a_cons i_int (a_cons i_int (a_cons (i_ite (t_cmp B.ok (i_biB B.ok (b := .sum) rfl (by rfl) Z.f_sum boot_sum (a_cons (i_v (i := 1) (by rfl) (by first | exact .inl rfl | exact .inr (.inl rfl) | exact .inr (.inr rfl))) a_nil)) i_int) i_int i_int) a_nil))))) a_nil))) rfl (by first | exact .inl rfl | exact .inr rfl)) (ss_cons (s_setLc (i := 7) B.ok rfl rfl (sw_true rfl rfl rfl (by decide +kernel)) rfl (it_e (i_v (i := 1) (by rfl) (by first | exact .inl rfl | exact .inr (.inl rfl) | exact .inr (.inr rfl)))) (blkOk_by (N := ["sack", "choice", "most", "found", "total", "turn", "far", "powers", "share", "worth", "sign"]) (sc := (defScope (top 35))) (own := [("sign", 10)]) (by decide +kernel)) (fun _ _ _ _ _ => (g_n (i := 10) (cok_blk B.ok) rfl (by first | exact .inl rfl | exact .inr rfl) (by first | exact .inl rfl | exact .inr rfl))) (fun _ _ _ _ _ => (i_op (i_call (cok_blk B.ok) (by rfl) (call_blk (B.call 18 d__law_take rfl)) (a_cons (i_v (i := 0) (by rfl) (by first | exact .inl rfl | exact .inr (.inl rfl) | exact .inr (.inr rfl))) (a_cons (i_op (i_v (i := 6) (by rfl) (by first | exact .inl rfl | exact .inr (.inl rfl) | exact .inr (.inr rfl))) i_int) a_nil))) (i_v (i := 10) (by rfl) (by first | exact .inl rfl | exact .inr (.inl rfl) | exact .inr (.inr rfl)))))) (ss_cons (s_set (i := 8) B.ok rfl (by first | exact .inl rfl | exact .inr rfl) (i_op i_int (i_call B.ok (by rfl) (B.call 18 d__law_take rfl) (a_cons (i_v (i := 0) (by rfl) (by first | exact .inl rfl | exact .inr (.inl rfl) | exact .inr (.inr rfl))) (a_cons (i_call B.ok (by rfl) (B.call 19 d__law_pick rfl) (a_cons (i_v (i := 0) (by rfl) (by first | exact .inl rfl | exact .inr (.inl rfl) | exact .inr (.inr rfl))) (a_cons (i_lst (a_cons i_int (a_cons i_int (a_cons i_int (a_cons (i_ite (t_cmp B.ok (i_biB B.ok (b := .sum) rfl (by rfl) Z.f_sum boot_sum (a_cons (i_v (i := 1) (by rfl) (by first | exact .inl rfl | exact .inr (.inl rfl) | exact .inr (.inr rfl))) a_nil)) i_int) (i_op i_int i_int) i_int) a_nil))))) a_nil))) a_nil)))) rfl (by first | exact .inl rfl | exact .inr rfl)) (ss_cons (s_set (i := 9) B.ok rfl (by first | exact .inl rfl | exact .inr rfl) (i_op (i_v (i := 8) (by rfl) (by first | exact .inl rfl | exact .inr (.inl rfl) | exact .inr (.inr rfl))) (i_call B.ok (by rfl) (B.call 20 d__law_power rfl) (a_cons i_int (a_cons (i_biB B.ok (b := .sum) rfl (by rfl) Z.f_sum boot_sum (a_cons (i_v (i := 7) (by rfl) (by first | exact .inl rfl | exact .inr (.inl rfl) | exact .inr (.inr rfl))) a_nil)) a_nil)))) rfl (by first | exact .inl rfl | exact .inr rfl)) (ss_cons (s_if (t_cmp B.ok (i_op (i_v (i := 4) (by rfl) (by first | exact .inl rfl | exact .inr (.inl rfl) | exact .inr (.inr rfl))) (i_v (i := 9) (by rfl) (by first | exact .inl rfl | exact .inr (.inl rfl) | exact .inr (.inr rfl)))) (i_v (i := 2) (by rfl) (by first | exact .inl rfl | exact .inr (.inl rfl) | exact .inr (.inr rfl)))) (ss_cons (s_set (i := 4) B.ok rfl (by first | exact .inl rfl | exact .inr rfl) (i_op (i_v (i := 4) (by rfl) (by first | exact .inl rfl | exact .inr (.inl rfl) | exact .inr (.inr rfl))) (i_v (i := 9) (by rfl) (by first | exact .inl rfl | exact .inr (.inl rfl) | exact .inr (.inr rfl)))) rfl (by first | exact .inl rfl | exact .inr rfl)) (ss_cons (s_ex (i_me mf_append (i_v (i := 3) (by rfl) (by first | exact .inl rfl | exact .inr (.inl rfl) | exact .inr (.inr rfl))) (a_cons (i_tup (a_cons (i_v (i := 7) (by rfl) (by first | exact .inl rfl | exact .inr (.inl rfl) | exact .inr (.inr rfl))) (a_cons (i_v (i := 8) (by rfl) (by first | exact .inl rfl | exact .inr (.inl rfl) | exact .inr (.inr rfl))) a_nil))) a_nil))) ss_nil)) ss_nil) ss_nil)))))) (ss_cons (s_ret (i_frz (i := 3) (by rfl) (by first | exact .inl rfl | exact .inr (.inl rfl) | exact .inr (.inr rfl)))) ss_nil)))
theorem ok__law_worth (Z : Zs K mg) (B : BodyOk (BodyX P w K mg base ["terms", "numbers", "total", "powers", "share", "part", "number", "times"] "_law_worth" (defScope (top 36)) f cdv A outer s H) Ds 1000000 k) :
    PSs (BodyX P w K mg base ["terms", "numbers", "total", "powers", "share", "part", "number", "times"] "_law_worth" (defScope (top 36)) f cdv A outer s H) (defBody (top 36)) (tSs K (run (Fns Ds) 1000000 k) 1000000 b__law_worth) :=
  (ss_cons (s_set (i := 2) B.ok rfl (by first | exact .inl rfl | exact .inr rfl) i_int rfl (by first | exact .inl rfl | exact .inr rfl)) (ss_cons (s_for B.ok PassesOwn.never (it_e (i_v (i := 0) (by rfl) (by first | exact .inl rfl | exact .inr (.inl rfl) | exact .inr (.inr rfl)))) (g_t B.ok (.cons (i := 3) rfl (by first | exact .inl rfl | exact .inr rfl) (by first | exact .inl rfl | exact .inr rfl) (.cons (i := 4) rfl (by first | exact .inl rfl | exact .inr rfl) (by first | exact .inl rfl | exact .inr rfl) .nil))) (ss_cons (s_set (i := 5) B.ok rfl (by first | exact .inl rfl | exact .inr rfl) (i_v (i := 4) (by rfl) (by first | exact .inl rfl | exact .inr (.inl rfl) | exact .inr (.inr rfl))) rfl (by first | exact .inl rfl | exact .inr rfl)) (ss_cons (s_for B.ok PassesOwn.never (it_zipT (by rfl) Z.f_zip (i_v (i := 1) (by rfl) (by first | exact .inl rfl | exact .inr (.inl rfl) | exact .inr (.inr rfl))) (i_v (i := 3) (by rfl) (by first | exact .inl rfl | exact .inr (.inl rfl) | exact .inr (.inr rfl)))) (g_t B.ok (.cons (i := 6) rfl (by first | exact .inl rfl | exact .inr rfl) (by first | exact .inl rfl | exact .inr rfl) (.cons (i := 7) rfl (by first | exact .inl rfl | exact .inr rfl) (by first | exact .inl rfl | exact .inr rfl) .nil))) (ss_cons (s_set (i := 5) B.ok rfl (by first | exact .inl rfl | exact .inr rfl) (i_op (i_v (i := 5) (by rfl) (by first | exact .inl rfl | exact .inr (.inl rfl) | exact .inr (.inr rfl))) (i_call B.ok (by rfl) (B.call 20 d__law_power rfl) (a_cons (i_v (i := 6) (by rfl) (by first | exact .inl rfl | exact .inr (.inl rfl) | exact .inr (.inr rfl))) (a_cons (i_v (i := 7) (by rfl) (by first | exact .inl rfl | exact .inr (.inl rfl) | exact .inr (.inr rfl))) a_nil)))) rfl (by first | exact .inl rfl | exact .inr rfl)) ss_nil)) (ss_cons (s_set (i := 2) B.ok rfl (by first | exact .inl rfl | exact .inr rfl) (i_op (i_v (i := 2) (by rfl) (by first | exact .inl rfl | exact .inr (.inl rfl) | exact .inr (.inr rfl))) (i_v (i := 5) (by rfl) (by first | exact .inl rfl | exact .inr (.inl rfl) | exact .inr (.inr rfl)))) rfl (by first | exact .inl rfl | exact .inr rfl)) ss_nil)))) (ss_cons (s_ret (i_v (i := 2) (by rfl) (by first | exact .inl rfl | exact .inr (.inl rfl) | exact .inr (.inr rfl)))) ss_nil)))
theorem ok__law_second (Z : Zs K mg) (B : BodyOk (BodyX P w K mg base ["choice", "value", "greatest", "found", "times", "sign"] "_law_second" (defScope (top 37)) f cdv A outer s H) Ds 1000000 k) :
    PSs (BodyX P w K mg base ["choice", "value", "greatest", "found", "times", "sign"] "_law_second" (defScope (top 37)) f cdv A outer s H) (defBody (top 37)) (tSs K (run (Fns Ds) 1000000 k) 1000000 b__law_second) :=
  (ss_cons (s_set (i := 2) B.ok rfl (by first | exact .inl rfl | exact .inr rfl) i_int rfl (by first | exact .inl rfl | exact .inr rfl)) (ss_cons (s_wh PassesOwn.never (t_cmp B.ok (i_call B.ok (by rfl) (B.call 20 d__law_power rfl) (a_cons i_int (a_cons (i_op (i_v (i := 2) (by rfl) (by first | exact .inl rfl | exact .inr (.inl rfl) | exact .inr (.inr rfl))) i_int) a_nil))) (i_v (i := 1) (by rfl) (by first | exact .inl rfl | exact .inr (.inl rfl) | exact .inr (.inr rfl)))) (ss_cons (s_set (i := 2) B.ok rfl (by first | exact .inl rfl | exact .inr rfl) (i_op (i_v (i := 2) (by rfl) (by first | exact .inl rfl | exact .inr (.inl rfl) | exact .inr (.inr rfl))) i_int) rfl (by first | exact .inl rfl | exact .inr rfl)) ss_nil)) (ss_cons (s_par2 (i := 3) (j := 4) B.ok rfl rfl (by decide) rfl rfl (a_cons (i_new a_nil) (a_cons i_int a_nil)) rfl) (ss_cons (s_for B.ok PassesOwn.never (it_e (i_v (i := 0) (by rfl) (by first | exact .inl rfl | exact .inr (.inl rfl) | exact .inr (.inr rfl)))) (g_n (i := 5) B.ok rfl (by first | exact .inl rfl | exact .inr rfl) (by first | exact .inl rfl | exact .inr rfl)) (ss_cons (s_ex (i_me mf_append (i_v (i := 3) (by rfl) (by first | exact .inl rfl | exact .inr (.inl rfl) | exact .inr (.inr rfl))) (a_cons (i_ite (t_cmp B.ok (i_v (i := 5) (by rfl) (by first | exact .inl rfl | exact .inr (.inl rfl) | exact .inr (.inr rfl))) i_int) (i_call B.ok (by rfl) (B.call 20 d__law_power rfl) (a_cons (i_op (i_v (i := 1) (by rfl) (by first | exact .inl rfl | exact .inr (.inl rfl) | exact .inr (.inr rfl))) i_int) (a_cons (i_v (i := 4) (by rfl) (by first | exact .inl rfl | exact .inr (.inl rfl) | exact .inr (.inr rfl))) a_nil))) i_int) a_nil))) (ss_cons (s_if (t_cmp B.ok (i_v (i := 5) (by rfl) (by first | exact .inl rfl | exact .inr (.inl rfl) | exact .inr (.inr rfl))) i_int) (ss_cons (s_set (i := 4) B.ok rfl (by first | exact .inl rfl | exact .inr rfl) (i_op (i_v (i := 4) (by rfl) (by first | exact .inl rfl | exact .inr (.inl rfl) | exact .inr (.inr rfl))) (i_op (i_v (i := 2) (by rfl) (by first | exact .inl rfl | exact .inr (.inl rfl) | exact .inr (.inr rfl))) i_int)) rfl (by first | exact .inl rfl | exact .inr rfl)) ss_nil) ss_nil) ss_nil))) (ss_cons (s_ret (i_biT B.ok (b := .tuple) rfl (by rfl) Z.f_tuple boot_tuple (a_cons (i_v (i := 3) (by rfl) (by first | exact .inl rfl | exact .inr (.inl rfl) | exact .inr (.inr rfl))) a_nil))) ss_nil)))))
theorem ok__law_asks (Z : Zs K mg) (B : BodyOk (BodyX P w K mg base ["choice", "terms", "first", "value", "sign"] "_law_asks" (defScope (top 38)) f cdv A outer s H) Ds 1000000 k) :
    PSs (BodyX P w K mg base ["choice", "terms", "first", "value", "sign"] "_law_asks" (defScope (top 38)) f cdv A outer s H) (defBody (top 38)) (tSs K (run (Fns Ds) 1000000 k) 1000000 b__law_asks) :=
  (ss_cons (s_set (i := 2) B.ok rfl (by first | exact .inl rfl | exact .inr rfl) (i_biT B.ok (b := .tuple) rfl (by rfl) Z.f_tuple boot_tuple (a_cons (i_comp B.ok rfl (it_e (i_v (i := 0) (by rfl) (by first | exact .inl rfl | exact .inr (.inl rfl) | exact .inr (.inr rfl)))) (blkOk_by (N := ["choice", "terms", "first", "value", "sign"]) (sc := (defScope (top 38))) (own := [("sign", 4)]) (by decide +kernel)) (fun _ _ _ _ _ => (g_n (i := 4) (cok_blk B.ok) rfl (by first | exact .inl rfl | exact .inr rfl) (by first | exact .inl rfl | exact .inr rfl))) (fun _ _ _ _ _ => (i_op i_int (i_v (i := 4) (by rfl) (by first | exact .inl rfl | exact .inr (.inl rfl) | exact .inr (.inr rfl)))))) a_nil)) rfl (by first | exact .inl rfl | exact .inr rfl)) (ss_cons (s_set (i := 3) B.ok rfl (by first | exact .inl rfl | exact .inr rfl) (i_call B.ok (by rfl) (B.call 23 d__law_worth rfl) (a_cons (i_v (i := 1) (by rfl) (by first | exact .inl rfl | exact .inr (.inl rfl) | exact .inr (.inr rfl))) (a_cons (i_v (i := 2) (by rfl) (by first | exact .inl rfl | exact .inr (.inl rfl) | exact .inr (.inr rfl))) a_nil))) rfl (by first | exact .inl rfl | exact .inr rfl)) (ss_cons (s_ret (i_ite (t_w (w_or (t_cmp B.ok (i_biB B.ok (b := .sum) rfl (by rfl) Z.f_sum boot_sum (a_cons (i_v (i := 0) (by rfl) (by first | exact .inl rfl | exact .inr (.inl rfl) | exact .inr (.inr rfl))) a_nil)) i_int) (w_or1 (t_cmp B.ok (i_v (i := 3) (by rfl) (by first | exact .inl rfl | exact .inr (.inl rfl) | exact .inr (.inr rfl))) i_int)))) (i_lst (a_cons (i_v (i := 2) (by rfl) (by first | exact .inl rfl | exact .inr (.inl rfl) | exact .inr (.inr rfl))) a_nil)) (i_lst (a_cons (i_v (i := 2) (by rfl) (by first | exact .inl rfl | exact .inr (.inl rfl) | exact .inr (.inr rfl))) (a_cons (i_call B.ok (by rfl) (B.call 24 d__law_second rfl) (a_cons (i_v (i := 0) (by rfl) (by first | exact .inl rfl | exact .inr (.inl rfl) | exact .inr (.inr rfl))) (a_cons (i_v (i := 3) (by rfl) (by first | exact .inl rfl | exact .inr (.inl rfl) | exact .inr (.inr rfl))) a_nil))) a_nil))))) ss_nil)))
theorem ok__law_is_numbers (Z : Zs K mg) (B : BodyOk (BodyX P w K mg base ["told", "due", "part"] "_law_is_numbers" (defScope (top 39)) f cdv A outer s H) Ds 1000000 k) :
    PSs (BodyX P w K mg base ["told", "due", "part"] "_law_is_numbers" (defScope (top 39)) f cdv A outer s H) (defBody (top 39)) (tSs K (run (Fns Ds) 1000000 k) 1000000 b__law_is_numbers) :=
  (ss_cons (s_if (t_w (w_or (t_not (t_e (i_is1 (by rfl) Z.f_isinstance (i_v (i := 0) (by rfl) (by first | exact .inl rfl | exact .inr (.inl rfl) | exact .inr (.inr rfl))) (ty_ok (t := .tuple) (by rfl) Z.f_tuple boot_tuple)))) (w_or1 (t_cmp B.ok (i_biT B.ok (b := .list) rfl (by rfl) Z.f_list boot_list (a_cons (i_v (i := 0) (by rfl) (by first | exact .inl rfl | exact .inr (.inl rfl) | exact .inr (.inr rfl))) a_nil)) (i_biT B.ok (b := .list) rfl (by rfl) Z.f_list boot_list (a_cons (i_v (i := 1) (by rfl) (by first | exact .inl rfl | exact .inr (.inl rfl) | exact .inr (.inr rfl))) a_nil)))))) (ss_cons (s_ret i_bl) ss_nil) ss_nil) (ss_cons (s_ret (i_cmp B.ok (i_compI B.ok rfl (it_e (i_v (i := 0) (by rfl) (by first | exact .inl rfl | exact .inr (.inl rfl) | exact .inr (.inr rfl)))) (blkOk_by (N := ["told", "due", "part"]) (sc := (defScope (top 39))) (own := [("part", 2)]) (by decide +kernel)) (fun _ _ _ _ _ => (g_n (i := 2) (cok_blk B.ok) rfl (by first | exact .inl rfl | exact .inr rfl) (by first | exact .inl rfl | exact .inr rfl))) (fun _ _ _ _ _ => (t_w (w_or (t_e (i_is1 (by rfl) Z.f_isinstance (i_v (i := 2) (by rfl) (by first | exact .inl rfl | exact .inr (.inl rfl) | exact .inr (.inr rfl))) (ty_ok (t := .bool) (by rfl) Z.f_bool boot_bool))) (w_or1 (t_not (t_e (i_is1 (by rfl) Z.f_isinstance (i_v (i := 2) (by rfl) (by first | exact .inl rfl | exact .inr (.inl rfl) | exact .inr (.inr rfl))) (ty_ok (t := .int) (by rfl) Z.f_int boot_int)))))))) (fun _ _ _ _ _ => (i_v (i := 2) (by rfl) (by first | exact .inl rfl | exact .inr (.inl rfl) | exact .inr (.inr rfl))))) (i_lst a_nil))) ss_nil))
theorem ok_law (Z : Zs K mg) (B : BodyOk (BodyX P w K mg base ["script", "sack", "turn", "many", "asks", "answers", "choice", "kept", "asked", "terms", "numbers", "value", "answer"] "law" (defScope (top 40)) f cdv A outer s H) Ds 1000000 k) :
    PSs (BodyX P w K mg base ["script", "sack", "turn", "many", "asks", "answers", "choice", "kept", "asked", "terms", "numbers", "value", "answer"] "law" (defScope (top 40)) f cdv A outer s H) (defBody (top 40)) (tSs K (run (Fns Ds) 1000000 k) 1000000 b_law) :=
  (ss_cons (s_set (i := 1) B.ok rfl (by first | exact .inl rfl | exact .inr rfl) (i_call B.ok (by rfl) (B.call 17 d__law_sack rfl) (a_cons (i_v (i := 0) (by rfl) (by first | exact .inl rfl | exact .inr (.inl rfl) | exact .inr (.inr rfl))) a_nil)) rfl (by first | exact .inl rfl | exact .inr rfl)) (ss_cons (s_for B.ok PassesOwn.never (it_rng1 (by rfl) Z.f_range i_int) (g_n (i := 2) B.ok rfl (by first | exact .inl rfl | exact .inr rfl) (by first | exact .inl rfl | exact .inr rfl)) (ss_cons (s_set (i := 3) B.ok rfl (by first | exact .inl rfl | exact .inr rfl) (i_call B.ok (by rfl) (B.call 19 d__law_pick rfl) (a_cons (i_v (i := 1) (by rfl) (by first | exact .inl rfl | exact .inr (.inl rfl) | exact .inr (.inr rfl))) (a_cons (i_lst (a_cons i_int (a_cons i_int (a_cons i_int (a_cons i_int (a_cons i_int a_nil)))))) a_nil))) rfl (by first | exact .inl rfl | exact .inr rfl)) (ss_cons (s_par2 (i := 4) (j := 5) B.ok rfl rfl (by decide) rfl rfl (a_cons (i_new a_nil) (a_cons (i_new a_nil) a_nil)) rfl) (ss_cons (s_for B.ok PassesOwn.never (it_e (i_call B.ok (by rfl) (B.call 21 d__law_choices rfl) (a_cons (i_v (i := 3) (by rfl) (by first | exact .inl rfl | exact .inr (.inl rfl) | exact .inr (.inr rfl))) a_nil))) (g_n (i := 6) B.ok rfl (by first | exact .inl rfl | exact .inr rfl) (by first | exact .inl rfl | exact .inr rfl)) (ss_cons (s_set (i := 9) B.ok rfl (by first | exact .inl rfl | exact .inr rfl) (i_call B.ok (by rfl) (B.call 22 d__law_terms rfl) (a_cons (i_v (i := 1) (by rfl) (by first | exact .inl rfl | exact .inr (.inl rfl) | exact .inr (.inr rfl))) (a_cons (i_v (i := 6) (by rfl) (by first | exact .inl rfl | exact .inr (.inl rfl) | exact .inr (.inr rfl))) a_nil))) rfl (by first | exact .inl rfl | exact .inr rfl)) (ss_cons (s_for B.ok PassesOwn.never (it_e (i_call B.ok (by rfl) (B.call 25 d__law_asks rfl) (a_cons (i_v (i := 6) (by rfl) (by first | exact .inl rfl | exact .inr (.inl rfl) | exact .inr (.inr rfl))) (a_cons (i_v (i := 9) (by rfl) (by first | exact .inl rfl | exact .inr (.inl rfl) | exact .inr (.inr rfl))) a_nil)))) (g_n (i := 10) B.ok rfl (by first | exact .inl rfl | exact .inr rfl) (by first | exact .inl rfl | exact .inr rfl)) (ss_cons (s_ex (i_me mf_append (i_v (i := 4) (by rfl) (by first | exact .inl rfl | exact .inr (.inl rfl) | exact .inr (.inr rfl))) (a_cons (i_v (i := 10) (by rfl) (by first | exact .inl rfl | exact .inr (.inl rfl) | exact .inr (.inr rfl))) a_nil))) (ss_cons (s_ex (i_me mf_append (i_v (i := 5) (by rfl) (by first | exact .inl rfl | exact .inr (.inl rfl) | exact .inr (.inr rfl))) (a_cons (i_tup (a_cons (i_ite (t_cmp B.ok (i_call B.ok (by rfl) (B.call 18 d__law_take rfl) (a_cons (i_v (i := 1) (by rfl) (by first | exact .inl rfl | exact .inr (.inl rfl) | exact .inr (.inr rfl))) (a_cons i_int a_nil))) i_int) (i_biT B.ok (b := .list) rfl (by rfl) Z.f_list boot_list (a_cons (i_v (i := 10) (by rfl) (by first | exact .inl rfl | exact .inr (.inl rfl) | exact .inr (.inr rfl))) a_nil)) (i_v (i := 10) (by rfl) (by first | exact .inl rfl | exact .inr (.inl rfl) | exact .inr (.inr rfl)))) (a_cons (i_call B.ok (by rfl) (B.call 23 d__law_worth rfl) (a_cons (i_v (i := 9) (by rfl) (by first | exact .inl rfl | exact .inr (.inl rfl) | exact .inr (.inr rfl))) (a_cons (i_v (i := 10) (by rfl) (by first | exact .inl rfl | exact .inr (.inl rfl) | exact .inr (.inr rfl))) a_nil))) a_nil))) a_nil))) ss_nil))) ss_nil))) (ss_cons (s_if (t_cmp B.ok (i_biB B.ok (b := .len) rfl (by rfl) Z.f_len boot_len (a_cons (i_v (i := 4) (by rfl) (by first | exact .inl rfl | exact .inr (.inl rfl) | exact .inr (.inr rfl))) a_nil)) (i_op (i_op i_int (i_call B.ok (by rfl) (B.call 20 d__law_power rfl) (a_cons i_int (a_cons (i_v (i := 3) (by rfl) (by first | exact .inl rfl | exact .inr (.inl rfl) | exact .inr (.inr rfl))) a_nil)))) i_int)) (ss_cons (s_ret i_bl) ss_nil) ss_nil) (ss_frz (ss_cons (s_setLc (i := 7) B.ok rfl rfl (sw_true rfl rfl rfl (by decide +kernel)) rfl (it_e (i_v (i := 5) (by rfl) (by first | exact .inl rfl | exact .inr (.inl rfl) | exact .inr (.inr rfl)))) (blkOk_by (N := ["script", "sack", "turn", "many", "asks", "answers", "choice", "kept", "asked", "terms", "numbers", "value", "answer"]) (sc := (defScope (top 40))) (own := [("numbers", 10), ("value", 11)]) (by decide +kernel)) (fun _ _ _ _ _ => (g_t (cok_blk B.ok) (.cons (i := 10) rfl (by first | exact .inl rfl | exact .inr rfl) (by first | exact .inl rfl | exact .inr rfl) (.cons (i := 11) rfl (by first | exact .inl rfl | exact .inr rfl) (by first | exact .inl rfl | exact .inr rfl) .nil)))) (fun _ _ _ _ _ => (i_tup (a_cons (i_biT (cok_blk B.ok) (b := .tuple) rfl (by rfl) Z.f_tuple boot_tuple (a_cons (i_v (i := 10) (by rfl) (by first | exact .inl rfl | exact .inr (.inl rfl) | exact .inr (.inr rfl))) a_nil)) (a_cons (i_v (i := 11) (by rfl) (by first | exact .inl rfl | exact .inr (.inl rfl) | exact .inr (.inr rfl))) a_nil))))) (ss_cons (s_for B.ok PassesOwn.never (it_rng1 (by rfl) Z.f_range (i_biB B.ok (b := .len) rfl (by rfl) Z.f_len boot_len (a_cons (i_v (i := 4) (by rfl) (by first | exact .inl rfl | exact .inr (.inl rfl) | exact .inr (.inr rfl))) a_nil))) (g_n (i := 8) B.ok rfl (by first | exact .inl rfl | exact .inr rfl) (by first | exact .inl rfl | exact .inr rfl)) (ss_cons (s_if (t_not (t_e (i_call B.ok (by rfl) (B.call 26 d__law_is_numbers rfl) (a_cons (i_call B.ok (by rfl) (B.call 16 d_next_ask rfl) (a_cons (i_v (i := 3) (by rfl) (by first | exact .inl rfl | exact .inr (.inl rfl) | exact .inr (.inr rfl))) (a_cons (i_sl (i_v (i := 5) (by rfl) (by first | exact .inl rfl | exact .inr (.inl rfl) | exact .inr (.inr rfl))) o_none (o_some (i_v (i := 8) (by rfl) (by first | exact .inl rfl | exact .inr (.inl rfl) | exact .inr (.inr rfl))))) a_nil))) (a_cons (i_ix (i_v (i := 4) (by rfl) (by first | exact .inl rfl | exact .inr (.inl rfl) | exact .inr (.inr rfl))) (i_v (i := 8) (by rfl) (by first | exact .inl rfl | exact .inr (.inl rfl) | exact .inr (.inr rfl)))) a_nil))))) (ss_cons (s_ret i_bl) ss_nil) ss_nil) ss_nil)) (ss_cons (s_if (t_cmp B.ok (i_callK0 B.ok (by rfl) (B.callK 16 d_next_ask _ _ _ rfl kw_next_ask_0_answers_many) (k_cons (i_biT B.ok (b := .tuple) rfl (by rfl) Z.f_tuple boot_tuple (a_cons (i_comp B.ok rfl (it_e (i_v (i := 5) (by rfl) (by first | exact .inl rfl | exact .inr (.inl rfl) | exact .inr (.inr rfl)))) (blkOk_by (N := ["script", "sack", "turn", "many", "asks", "answers", "choice", "kept", "asked", "terms", "numbers", "value", "answer"]) (sc := (defScope (top 40))) (own := [("answer", 12)]) (by decide +kernel)) (fun _ _ _ _ _ => (g_n (i := 12) (cok_blk B.ok) rfl (by first | exact .inl rfl | exact .inr rfl) (by first | exact .inl rfl | exact .inr rfl))) (fun _ _ _ _ _ => (i_biT (cok_blk B.ok) (b := .list) rfl (by rfl) Z.f_list boot_list (a_cons (i_v (i := 12) (by rfl) (by first | exact .inl rfl | exact .inr (.inl rfl) | exact .inr (.inr rfl))) a_nil)))) a_nil)) (k_cons (i_v (i := 3) (by rfl) (by first | exact .inl rfl | exact .inr (.inl rfl) | exact .inr (.inr rfl))) k_nil)) (by rfl)) i_non) (ss_cons (s_ret i_bl) ss_nil) ss_nil) (ss_cons (s_if (t_cmp B.ok (i_comp B.ok rfl (it_e (i_v (i := 5) (by rfl) (by first | exact .inl rfl | exact .inr (.inl rfl) | exact .inr (.inr rfl)))) (blkOk_by (N := ["script", "sack", "turn", "many", "asks", "answers", "choice", "kept", "asked", "terms", "numbers", "value", "answer"]) (sc := (defScope (top 40))) (own := [("numbers", 10), ("value", 11)]) (by decide +kernel)) (fun _ _ _ _ _ => (g_t (cok_blk B.ok) (.cons (i := 10) rfl (by first | exact .inl rfl | exact .inr rfl) (by first | exact .inl rfl | exact .inr rfl) (.cons (i := 11) rfl (by first | exact .inl rfl | exact .inr rfl) (by first | exact .inl rfl | exact .inr rfl) .nil)))) (fun _ _ _ _ _ => (i_tup (a_cons (i_biT (cok_blk B.ok) (b := .tuple) rfl (by rfl) Z.f_tuple boot_tuple (a_cons (i_v (i := 10) (by rfl) (by first | exact .inl rfl | exact .inr (.inl rfl) | exact .inr (.inr rfl))) a_nil)) (a_cons (i_v (i := 11) (by rfl) (by first | exact .inl rfl | exact .inr (.inl rfl) | exact .inr (.inr rfl))) a_nil))))) (i_v (i := 7) (by rfl) (by first | exact .inl rfl | exact .inr (.inl rfl) | exact .inr (.inr rfl)))) (ss_cons (s_ret i_bl) ss_nil) ss_nil) ss_nil)))))))))) (ss_cons (s_ret (i_and (i_cmp B.ok (i_call B.ok (by rfl) (B.call 16 d_next_ask rfl) (a_cons i_int (a_cons (i_lst a_nil) a_nil))) (i_tup a_nil)) (i_one (i_cmp B.ok (i_call B.ok (by rfl) (B.call 16 d_next_ask rfl) (a_cons i_int (a_cons (i_lst (a_cons (i_tup (a_cons (i_tup (a_cons i_int a_nil)) (a_cons (i_op i_int i_int) a_nil))) a_nil)) a_nil))) (i_tup (a_cons i_int a_nil)))))) ss_nil)))
end
theorem bodies {P : Program} {w : World} {K : PySem.W.Frag} {mg : Str → Option Value} {base : Heap} (Z : Zs K mg) : ∀ (i : Nat) (d : DefI), Ds[i]? = some d → ∀ k f cdv A outer s H, BodyOk (BodyX P w K mg base d.N d.name d.scope f cdv A outer s H) Ds 1000000 k →
    PSs (BodyX P w K mg base d.N d.name d.scope f cdv A outer s H) d.body (tSs K (run (Fns Ds) 1000000 k) 1000000 d.fn.body)
  | 0, _, rfl => fun _ _ _ _ _ _ _ B => ok_is_integer Z B
  | 1, _, rfl => fun _ _ _ _ _ _ _ B => ok_is_within Z B
  | 2, _, rfl => fun _ _ _ _ _ _ _ B => ok_need_number Z B
  | 3, _, rfl => fun _ _ _ _ _ _ _ B => ok_need_many Z B
  | 4, _, rfl => fun _ _ _ _ _ _ _ B => ok_are_numbers Z B
  | 5, _, rfl => fun _ _ _ _ _ _ _ B => ok_choices Z B
  | 6, _, rfl => fun _ _ _ _ _ _ _ B => ok_is_answer Z B
  | 7, _, rfl => fun _ _ _ _ _ _ _ B => ok_are_answers Z B
  | 8, _, rfl => fun _ _ _ _ _ _ _ B => ok_raised Z B
  | 9, _, rfl => fun _ _ _ _ _ _ _ B => ok_steps_of_places Z B
  | 10, _, rfl => fun _ _ _ _ _ _ _ B => ok_spread Z B
  | 11, _, rfl => fun _ _ _ _ _ _ _ B => ok_second_numbers Z B
  | 12, _, rfl => fun _ _ _ _ _ _ _ B => ok_next_of Z B
  | 13, _, rfl => fun _ _ _ _ _ _ _ B => ok_need_small Z B
  | 14, _, rfl => fun _ _ _ _ _ _ _ B => ok_sorted_out Z B
  | 15, _, rfl => fun _ _ _ _ _ _ _ B => ok_need_answers Z B
  | 16, _, rfl => fun _ _ _ _ _ _ _ B => ok_next_ask Z B
  | 17, _, rfl => fun _ _ _ _ _ _ _ B => ok__law_sack Z B
  | 18, _, rfl => fun _ _ _ _ _ _ _ B => ok__law_take Z B
  | 19, _, rfl => fun _ _ _ _ _ _ _ B => ok__law_pick Z B
  | 20, _, rfl => fun _ _ _ _ _ _ _ B => ok__law_power Z B
  | 21, _, rfl => fun _ _ _ _ _ _ _ B => ok__law_choices Z B
  | 22, _, rfl => fun _ _ _ _ _ _ _ B => ok__law_terms Z B
  | 23, _, rfl => fun _ _ _ _ _ _ _ B => ok__law_worth Z B
  | 24, _, rfl => fun _ _ _ _ _ _ _ B => ok__law_second Z B
  | 25, _, rfl => fun _ _ _ _ _ _ _ B => ok__law_asks Z B
  | 26, _, rfl => fun _ _ _ _ _ _ _ B => ok__law_is_numbers Z B
  | 27, _, rfl => fun _ _ _ _ _ _ _ B => ok_law Z B
  | n + 28, _, h => by simp [Ds] at h
theorem scopes : ∀ (i : Nat) (d : DefI), Ds[i]? = some d → FnScope d.N d.ps d.scope ∧ d.fn.ar = d.ps.length ∧ d.fn.sl = d.N.length
  | 0, _, rfl => ⟨⟨rfl, rfl, rfl, by decide +kernel, rfl, by decide +kernel, by decide +kernel⟩, rfl, rfl⟩
  | 1, _, rfl => ⟨⟨rfl, rfl, rfl, by decide +kernel, rfl, by decide +kernel, by decide +kernel⟩, rfl, rfl⟩
  | 2, _, rfl => ⟨⟨rfl, rfl, rfl, by decide +kernel, rfl, by decide +kernel, by decide +kernel⟩, rfl, rfl⟩
  | 3, _, rfl => ⟨⟨rfl, rfl, rfl, by decide +kernel, rfl, by decide +kernel, by decide +kernel⟩, rfl, rfl⟩
  | 4, _, rfl => ⟨⟨rfl, rfl, rfl, by decide +kernel, rfl, by decide +kernel, by decide +kernel⟩, rfl, rfl⟩
  | 5, _, rfl => ⟨⟨rfl, rfl, rfl, by decide +kernel, rfl, by decide +kernel, by decide +kernel⟩, rfl, rfl⟩
  | 6, _, rfl => ⟨⟨rfl, rfl, rfl, by decide +kernel, rfl, by decide +kernel, by decide +kernel⟩, rfl, rfl⟩
  | 7, _, rfl => ⟨⟨rfl, rfl, rfl, by decide +kernel, rfl, by decide +kernel, by decide +kernel⟩, rfl, rfl⟩
  | 8, _, rfl => ⟨⟨rfl, rfl, rfl, by decide +kernel, rfl, by decide +kernel, by decide +kernel⟩, rfl, rfl⟩
  | 9, _, rfl => ⟨⟨rfl, rfl, rfl, by decide +kernel, rfl, by decide +kernel, by decide +kernel⟩, rfl, rfl⟩
  | 10, _, rfl => ⟨⟨rfl, rfl, rfl, by decide +kernel, rfl, by decide +kernel, by decide +kernel⟩, rfl, rfl⟩
  | 11, _, rfl => ⟨⟨rfl, rfl, rfl, by decide +kernel, rfl, by decide +kernel, by decide +kernel⟩, rfl, rfl⟩
  | 12, _, rfl => ⟨⟨rfl, rfl, rfl, by decide +kernel, rfl, by decide +kernel, by decide +kernel⟩, rfl, rfl⟩
  | 13, _, rfl => ⟨⟨rfl, rfl, rfl, by decide +kernel, rfl, by decide +kernel, by decide +kernel⟩, rfl, rfl⟩
  | 14, _, rfl => ⟨⟨rfl, rfl, rfl, by decide +kernel, rfl, by decide +kernel, by decide +kernel⟩, rfl, rfl⟩
  | 15, _, rfl => ⟨⟨rfl, rfl, rfl, by decide +kernel, rfl, by decide +kernel, by decide +kernel⟩, rfl, rfl⟩
  | 16, _, rfl => ⟨⟨rfl, rfl, rfl, by decide +kernel, rfl, by decide +kernel, by decide +kernel⟩, rfl, rfl⟩
  | 17, _, rfl => ⟨⟨rfl, rfl, rfl, by decide +kernel, rfl, by decide +kernel, by decide +kernel⟩, rfl, rfl⟩
  | 18, _, rfl => ⟨⟨rfl, rfl, rfl, by decide +kernel, rfl, by decide +kernel, by decide +kernel⟩, rfl, rfl⟩
  | 19, _, rfl => ⟨⟨rfl, rfl, rfl, by decide +kernel, rfl, by decide +kernel, by decide +kernel⟩, rfl, rfl⟩
  | 20, _, rfl => ⟨⟨rfl, rfl, rfl, by decide +kernel, rfl, by decide +kernel, by decide +kernel⟩, rfl, rfl⟩
  | 21, _, rfl => ⟨⟨rfl, rfl, rfl, by decide +kernel, rfl, by decide +kernel, by decide +kernel⟩, rfl, rfl⟩
  | 22, _, rfl => ⟨⟨rfl, rfl, rfl, by decide +kernel, rfl, by decide +kernel, by decide +kernel⟩, rfl, rfl⟩
  | 23, _, rfl => ⟨⟨rfl, rfl, rfl, by decide +kernel, rfl, by decide +kernel, by decide +kernel⟩, rfl, rfl⟩
  | 24, _, rfl => ⟨⟨rfl, rfl, rfl, by decide +kernel, rfl, by decide +kernel, by decide +kernel⟩, rfl, rfl⟩
  | 25, _, rfl => ⟨⟨rfl, rfl, rfl, by decide +kernel, rfl, by decide +kernel, by decide +kernel⟩, rfl, rfl⟩
  | 26, _, rfl => ⟨⟨rfl, rfl, rfl, by decide +kernel, rfl, by decide +kernel, by decide +kernel⟩, rfl, rfl⟩
  | 27, _, rfl => ⟨⟨rfl, rfl, rfl, by decide +kernel, rfl, by decide +kernel, by decide +kernel⟩, rfl, rfl⟩
  | n + 28, _, h => by simp [Ds] at h
end Lk51

set_option Elab.async false
set_option linter.all false
set_option maxRecDepth 100000
set_option maxHeartbeats 4000000
namespace Lk51
open PySem PySem.Spec PyProof.Rows L2 Iv
theorem binds : ∀ (i : Nat) (d : DefI), Ds[i]? = some d → BindN d
  | 0, _, rfl => fun _ _ _ _ _ _ us h => match us, h with | [_], _ => rfl
  | 1, _, rfl => fun _ _ _ _ _ _ us h => match us, h with | [_, _, _], _ => rfl
  | 2, _, rfl => fun _ _ _ _ _ _ us h => match us, h with | [_, _, _, _], _ => rfl
  | 3, _, rfl => fun _ _ _ _ _ _ us h => match us, h with | [_], _ => rfl
  | 4, _, rfl => fun _ _ _ _ _ _ us h => match us, h with | [_], _ => rfl
  | 5, _, rfl => fun _ _ _ _ _ _ us h => match us, h with | [_], _ => rfl
  | 6, _, rfl => fun _ _ _ _ _ _ us h => match us, h with | [_, _], _ => rfl
  | 7, _, rfl => fun _ _ _ _ _ _ us h => match us, h with | [_, _], _ => rfl
  | 8, _, rfl => fun _ _ _ _ _ _ us h => match us, h with | [_, _], _ => rfl
  | 9, _, rfl => fun _ _ _ _ _ _ us h => match us, h with | [_], _ => rfl
  | 10, _, rfl => fun _ _ _ _ _ _ us h => match us, h with | [_, _], _ => rfl
  | 11, _, rfl => fun _ _ _ _ _ _ us h => match us, h with | [_, _], _ => rfl
  | 12, _, rfl => fun _ _ _ _ _ _ us h => match us, h with | [_, _], _ => rfl
  | 13, _, rfl => fun _ _ _ _ _ _ us h => match us, h with | [_, _], _ => rfl
  | 14, _, rfl => fun _ _ _ _ _ _ us h => match us, h with | [_, _], _ => rfl
  | 15, _, rfl => fun _ _ _ _ _ _ us h => match us, h with | [_, _], _ => rfl
  | 16, _, rfl => fun _ _ _ _ _ _ us h => match us, h with | [_, _], _ => rfl
  | 17, _, rfl => fun _ _ _ _ _ _ us h => match us, h with | [_], _ => rfl
  | 18, _, rfl => fun _ _ _ _ _ _ us h => match us, h with | [_, _], _ => rfl
  | 19, _, rfl => fun _ _ _ _ _ _ us h => match us, h with | [_, _], _ => rfl
  | 20, _, rfl => fun _ _ _ _ _ _ us h => match us, h with | [_, _], _ => rfl
  | 21, _, rfl => fun _ _ _ _ _ _ us h => match us, h with | [_], _ => rfl
  | 22, _, rfl => fun _ _ _ _ _ _ us h => match us, h with | [_, _], _ => rfl
  | 23, _, rfl => fun _ _ _ _ _ _ us h => match us, h with | [_, _], _ => rfl
  | 24, _, rfl => fun _ _ _ _ _ _ us h => match us, h with | [_, _], _ => rfl
  | 25, _, rfl => fun _ _ _ _ _ _ us h => match us, h with | [_, _], _ => rfl
  | 26, _, rfl => fun _ _ _ _ _ _ us h => match us, h with | [_, _], _ => rfl
  | 27, _, rfl => fun _ _ _ _ _ _ us h => match us, h with | [_], _ => rfl
  | n + 28, _, h => by simp [Ds] at h
def fa : List He.Fa := [.glo "is_integer", .glo "is_within", .glo "need_number", .glo "need_many", .glo "are_numbers", .glo "choices", .glo "is_answer", .glo "are_answers", .glo "raised", .glo "steps_of_places", .glo "spread", .glo "second_numbers", .glo "next_of", .glo "need_small", .glo "sorted_out", .glo "need_answers", .glo "next_ask", .glo "_law_sack", .glo "_law_take", .glo "_law_pick", .glo "_law_power", .glo "_law_choices", .glo "_law_terms", .glo "_law_worth", .glo "_law_second", .glo "_law_asks", .glo "_law_is_numbers", .glo "law", .free "abs", .free "all", .free "bool", .free "int", .free "isinstance", .free "len", .free "list", .free "range", .free "sorted", .free "sum", .free "tuple", .free "zip"]
def exK (K : PySem.W.Frag) : Bool := true && gbx K "FIRST" (.int 2) && gbx K "MOST_MANY" (.int 3) && gbx K "MOST_VALUES" (.tup [.non, (.int 1000000000000000000), (.int 10000), (.int 200)])
abbrev Rw : PySem.W.OpenLaw := PySem.Challenge.rw_timesagain_k51_next_asks_by_own_reckonin
abbrev R : PySem.W.OpenRow := PySem.W.OpenLaw.row Rw
abbrev fnD : List He.DefD := Ds.map DefI.he
abbrev hk : PySem.W.Hook := He.hookX 4 fa fnD [] [] exK
def ob (s : PySem.W.SharedT) : He.AlX := He.obsX 4 fa fnD [] [] exK (HandSHeadRun.getT s)
theorem ob_eq (s : PySem.W.SharedT) : ob s = hk.obs s.abs := He.obsX_eq (HandSHeadRun.getT_eq s)
def loose : List PySem.Str := (["AgainError", "BadNumber", "BadTable", "Misfit", "TooMany", "MOST_MANY", "is_integer", "is_within", "need_number", "need_many", "are_numbers", "choices", "FIRST", "MOST_VALUES", "is_answer", "are_answers", "raised", "steps_of_places", "spread", "second_numbers", "next_of", "need_small", "sorted_out", "need_answers", "next_ask", "_law_sack", "_law_take", "_law_pick", "_law_power", "_law_choices"] : List PySem.Str) ++ (["_law_terms", "_law_worth", "_law_second", "_law_asks", "_law_is_numbers"] : List PySem.Str)
theorem run_top (w : World) : HandSHeadRun.RunEq R (PySem.W.view R.prog [40]) hk ob 8000 loose w := by
  intro os
  kernel_rfl
theorem zs {K : PySem.W.Frag} {h : Heap} {w : World} {mg : Str → Option Value} (X : K.In h) (G : h.Ns mainGlobals mg) (c : He.SaysX fa fnD [] [] exK w h K) : Zs K mg := by
  have e : exK K = true := c.more
  simp only [exK, Bool.and_eq_true, Bool.true_and] at e
  obtain ⟨⟨e0, e1⟩, e2⟩ := e
  exact ⟨glob_of X G e0, glob_of X G e1, glob_of X G e2, He.free_ok X G (He.SaysD.facts c.t.d (f := .free "abs") (by simp [fa])), He.free_ok X G (He.SaysD.facts c.t.d (f := .free "all") (by simp [fa])), He.free_ok X G (He.SaysD.facts c.t.d (f := .free "bool") (by simp [fa])), He.free_ok X G (He.SaysD.facts c.t.d (f := .free "int") (by simp [fa])), He.free_ok X G (He.SaysD.facts c.t.d (f := .free "isinstance") (by simp [fa])), He.free_ok X G (He.SaysD.facts c.t.d (f := .free "len") (by simp [fa])), He.free_ok X G (He.SaysD.facts c.t.d (f := .free "list") (by simp [fa])), He.free_ok X G (He.SaysD.facts c.t.d (f := .free "range") (by simp [fa])), He.free_ok X G (He.SaysD.facts c.t.d (f := .free "sorted") (by simp [fa])), He.free_ok X G (He.SaysD.facts c.t.d (f := .free "sum") (by simp [fa])), He.free_ok X G (He.SaysD.facts c.t.d (f := .free "tuple") (by simp [fa])), He.free_ok X G (He.SaysD.facts c.t.d (f := .free "zip") (by simp [fa]))⟩
theorem holds_of (hrun : ∀ ns : List Int, ns.length ≤ 63 → ∃ S', run (Fns Ds) 1000000 20 27 [.lst (ns.map D.int)] [] = some (.bl true, S')) : Rw.Holds := by
  w_on; o_law
  refine HandSHeadRun.head_any (r := R) (q := PySem.W.view R.prog [40]) (H := hk) (ob := ob) (M := 8000) (loose := loose) (d := HandSHeadRun.topDef R.prog 40) (kwd := []) ob_eq
    (by kernel_rfl) (fun s => by kernel_rfl) run_top (by kernel_rfl) (by kernel_rfl) (by kernel_rfl) (by rfl) (by first | assumption | decide +kernel) (by decide +kernel) ⟨rfl, rfl, rfl, rfl, rfl, by decide +kernel⟩ ?hw ?hc
  case hw => w_witness2
  case hc =>
    refine walk_I (l := Rw) (n := 63) (k := 20) (fi := 27) (x := "script") (F := run (Fns Ds) 1000000 20) rfl (by decide) (by kernel_rfl) ⟨rfl, by decide, by decide⟩ ?F hrun
    intro w mg f h Y G hmg0
    obtain ⟨K, KX, c⟩ := Y
    have hmg : mg ("law" : PySem.Str) = some (.ref f) := by
      have e : (HandSHeadRun.topDef R.prog 40).name = ("law" : PySem.Str) := by kernel_rfl
      rw [← e]
      exact hmg0
    have T : TopOk K mg Ds := topOk_of KX G c (by intro d hd; simp only [Ds, List.mem_cons, List.not_mem_nil, or_false] at hd; rcases hd with rfl | rfl | rfl | rfl | rfl | rfl | rfl | rfl | rfl | rfl | rfl | rfl | rfl | rfl | rfl | rfl | rfl | rfl | rfl | rfl | rfl | rfl | rfl | rfl | rfl | rfl | rfl | rfl <;> simp [fa, d_is_integer, d_is_within, d_need_number, d_need_many, d_are_numbers, d_choices, d_is_answer, d_are_answers, d_raised, d_steps_of_places, d_spread, d_second_numbers, d_next_of, d_need_small, d_sorted_out, d_need_answers, d_next_ask, d__law_sack, d__law_take, d__law_pick, d__law_power, d__law_choices, d__law_terms, d__law_worth, d__law_second, d__law_asks, d__law_is_numbers, d_law]) binds scopes
    obtain ⟨fd, F, hb⟩ := law_fd (i := 27) T rfl rfl (binds 27 _ rfl) hmg
    exact ⟨K, fd, KX, hb, fun base _ _ => all_fnI (base := base) T (bodies (zs KX G c)) 20 27 d_law f fd rfl hmg F⟩
end Lk51

set_option Elab.async false
set_option linter.all false
set_option maxRecDepth 100000
set_option maxHeartbeats 4000000
namespace Lk51
open PySem Iv
abbrev T : List Fn := Fns Ds
theorem t0 : T[0]? = some ⟨1, 1, b_is_integer⟩ := rfl
theorem t1 : T[1]? = some ⟨3, 3, b_is_within⟩ := rfl
theorem t2 : T[2]? = some ⟨4, 4, b_need_number⟩ := rfl
theorem t3 : T[3]? = some ⟨1, 1, b_need_many⟩ := rfl
theorem t4 : T[4]? = some ⟨1, 2, b_are_numbers⟩ := rfl
theorem t5 : T[5]? = some ⟨1, 5, b_choices⟩ := rfl
theorem t6 : T[6]? = some ⟨2, 2, b_is_answer⟩ := rfl
theorem t7 : T[7]? = some ⟨2, 3, b_are_answers⟩ := rfl
theorem t8 : T[8]? = some ⟨2, 4, b_raised⟩ := rfl
theorem t9 : T[9]? = some ⟨1, 1, b_steps_of_places⟩ := rfl
theorem t10 : T[10]? = some ⟨2, 5, b_spread⟩ := rfl
theorem t11 : T[11]? = some ⟨2, 4, b_second_numbers⟩ := rfl
theorem t12 : T[12]? = some ⟨2, 2, b_next_of⟩ := rfl
theorem t13 : T[13]? = some ⟨2, 3, b_need_small⟩ := rfl
theorem t14 : T[14]? = some ⟨2, 8, b_sorted_out⟩ := rfl
theorem t15 : T[15]? = some ⟨2, 2, b_need_answers⟩ := rfl
theorem t16 : T[16]? = some ⟨2, 2, b_next_ask⟩ := rfl
theorem t17 : T[17]? = some ⟨1, 2, b__law_sack⟩ := rfl
theorem t18 : T[18]? = some ⟨2, 6, reachB 61027 3181 2147483497 73009 2147483543 2657 2147483549⟩ := rfl
theorem t19 : T[19]? = some ⟨2, 2, oneB 18⟩ := rfl
theorem t20 : T[20]? = some ⟨2, 4, b__law_power⟩ := rfl
theorem t21 : T[21]? = some ⟨1, 4, b__law_choices⟩ := rfl
theorem t22 : T[22]? = some ⟨2, 11, b__law_terms⟩ := rfl
theorem t23 : T[23]? = some ⟨2, 8, b__law_worth⟩ := rfl
theorem t24 : T[24]? = some ⟨2, 6, b__law_second⟩ := rfl
theorem t25 : T[25]? = some ⟨2, 5, b__law_asks⟩ := rfl
theorem t26 : T[26]? = some ⟨2, 3, b__law_is_numbers⟩ := rfl
theorem t27 : T[27]? = some ⟨1, 13, b_law⟩ := rfl
theorem nums : NumsOk 61027 3181 2147483497 73009 2147483543 2657 2147483549 := ⟨by decide, by decide, by decide, by decide, by decide, by decide, by decide⟩
theorem dr {w : Nat} (c : List Int) : Dr T w 18 c := dr_of t18 nums
variable {w n : Nat} {S : Sto}
theorem is_int (i : Int) : run T w (n + 1) 0 [.int i] S = some (.bl true, S) :=
  run_rts t0 rfl rfl (by simp [b_is_integer, exs, ex, ev, see, isTy, tyOf])
theorem within {i lo hi : Int} (h1 : lo ≤ i) (h2 : i ≤ hi) : run T w (n + 2) 1 [.int i, .int lo, .int hi] S = some (.bl true, S) :=
  run_rts t1 rfl rfl (by simp [b_is_within, exs, ex, ev, evs, see, is_int, cmpD, Int.not_lt.mpr h1, h2])
theorem withinN {i : Int} (h1 : 0 ≤ i) : run T w (n + 2) 1 [.int i, .int 0, .non] S = some (.bl true, S) :=
  run_rts t1 rfl rfl (by simp [b_is_within, exs, ex, ev, evs, see, is_int, cmpD, Int.not_lt.mpr h1])
theorem need_many {m : Int} (h1 : 0 ≤ m) (h2 : m ≤ 3) : run T w (n + 4) 3 [.int m] S = some (.non, S) := by
  have e : run T w (n + 3) 2 [.int m, .str "many", .int 0, .int 3] S = some (.non, S) := run_nxs (ρ := [some (.int m), some (.str "many"), some (.int 0), some (.int 3)]) t2 rfl rfl (by simp [b_need_number, exs, ex, ev, evs, see, within h1 h2])
  exact run_nxs (ρ := [some (.int m)]) t3 rfl rfl (by simp [b_need_many, exs, ex, ev, evs, see, e])
theorem all_true : ∀ k : Nat, bls? (List.replicate k (.bl true)) = some (List.replicate k true)
  | 0 => rfl
  | k + 1 => by simp [List.replicate_succ, bls?, all_true k]
theorem all_trueD {xs : List D} (h : ∀ x ∈ xs, x = .bl true) : biD .all [.lst xs] = some (.bl true) := by
  have e : xs = List.replicate xs.length (.bl true) := List.eq_replicate_iff.mpr ⟨rfl, h⟩
  show (bls? xs).map _ = _
  rw [e, all_true]
  simp
/-- a row of numbers, as a list or as a tuple -/
def row (t : Bool) (c : List Int) : D := if t then .tup (c.map D.int) else .lst (c.map D.int)
theorem are_numbers {t : Bool} {c : List Int} (h : ∀ x ∈ c, 0 ≤ x) (hl : c.length ≤ 1000) : run T w (n + 3) 4 [row t c] S = some (.bl true, S) := by
  refine run_rts t4 rfl rfl ?_
  have e1 : items (row t c) = some (c.map D.int) := by cases t <;> rfl
  have e2 : ev (run T w (n + 2)) (.comp false (.n 1) (.v 0) (.call 1 (.cons (.v 1) (.cons (.c (.int 0)) (.cons (.c .non) .nil))))) [some (row t c), none] S = some (.lst ((c.map D.int).map fun _ => .bl true), S) :=
    ev_comp (x := row t c) (xs := c.map D.int) (g := fun _ => .bl true) (by simp [ev]) e1 (fun d hd => by
      obtain ⟨x, hx, rfl⟩ := List.mem_map.mp hd
      exact ⟨_, rfl, by simp [ev, evs, wipeT, withinN (h x hx)]⟩) (by rw [List.length_map]; omega)
  have e3 : biD .all [.lst ((c.map D.int).map fun _ => D.bl true)] = some (.bl true) := all_trueD fun x hx => by
    obtain ⟨_, _, rfl⟩ := List.mem_map.mp hx
    rfl
  have e4 : see S (row t c) = some (row t c) := by cases t <;> rfl
  have e5 : ([Ty.list, Ty.tuple].any (isTy (row t c))) = true := by cases t <;> rfl
  have s1 : ev (run T w (n + 2)) (.isi (.v 0) [.list, .tuple]) [some (row t c), none] S = some (.bl true, S) := by
    simp only [ev, List.getElem?_cons_zero, e4, e5]
  have s2 : ev (run T w (n + 2)) (.bi .all (.cons (.comp false (.n 1) (.v 0) (.call 1 (.cons (.v 1) (.cons (.c (.int 0)) (.cons (.c .non) .nil))))) .nil)) [some (row t c), none] S = some (.bl true, S) := by
    rw [ev, evs, e2]
    simp only [evs, seeAll, see, e3]
  show exs _ _ b_are_numbers [some (row t c), none] S = _
  rw [b_are_numbers, exs, ex, ev, s1]
  simp only [s2]
def bit (c : Bool) : Int := if c then 1 else 0
def wyT (p : List Bool) : D := .tup (p.map fun c => .int (bit c))
theorem map_bit (p : List Bool) : (p.map fun c => D.int (bit c)) = (p.map bit).map D.int := by rw [List.map_map]; rfl
def chs : Nat → List (List Bool)
  | 0 => [[]]
  | m + 1 => (chs m).flatMap fun c => [c ++ [false], c ++ [true]]
theorem chs_len : ∀ m, (chs m).length = 2 ^ m
  | 0 => rfl
  | m + 1 => by
    have : ∀ l : List (List Bool), (l.flatMap fun c => [c ++ [false], c ++ [true]]).length = 2 * l.length := fun l => by
      induction l with
      | nil => rfl
      | cons a l ih => rw [List.flatMap_cons, List.length_append, ih, List.length_cons, List.length_cons, List.length_cons, List.length_nil]; omega
    rw [chs, this, chs_len m, Nat.pow_succ]; omega
def chI : E := (.comp2 false (.n 3) (.v 1) (.n 4) (.tup (.cons (.c (.int 0)) (.cons (.c (.int 1)) .nil))) (.tup (.star (.v 3) (.cons (.v 4) .nil))))
theorem comp2Run_all {g : D → Sto → Option (List D × (D → Sto → Option (Option D × Sto)) × Sto)} {h : D → List D} {k : Nat} : ∀ (xs acc : List D), (∀ d ∈ xs, (h d).length = k ∧ ∃ ys f, g d S = some (ys, f, S) ∧ ∀ acc : List D, acc.length + k ≤ 1000 → compRun f ys acc S = some (acc ++ h d, S)) →
    acc.length + k * xs.length ≤ 1000 → comp2Run g xs acc S = some (acc ++ xs.flatMap h, S)
  | [], acc, _, _ => by simp [comp2Run]
  | d :: xs, acc, hd, hl => by
    obtain ⟨e0, ys, f, e1, e2⟩ := hd d List.mem_cons_self
    rw [List.length_cons, Nat.mul_succ] at hl
    have ih := comp2Run_all (g := g) (h := h) (k := k) xs (acc ++ h d) (fun e he => hd e (List.mem_cons_of_mem _ he)) (by rw [List.length_append, e0]; omega)
    unfold comp2Run
    simp only [e1, e2 acc (by omega), ih, List.flatMap_cons, List.append_assoc]
theorem add_bit {F : CF} {v0 v1 v2 : Option D} (p : List Bool) (c : Bool) (hp : p.length ≤ 100) : ev F (.tup (.star (.v 3) (.cons (.v 4) .nil))) [v0, v1, v2, some (wyT p), some (.int (bit c))] S = some (wyT (p ++ [c]), S) := by
  have sm : small (p.length + 1) = true := decide_eq_true (by omega)
  simp only [ev, evs, List.getElem?_cons_succ, List.getElem?_cons_zero, wyT, see, List.length_append, List.length_map, List.length_cons, List.length_nil, Nat.zero_add, sm, if_true, List.map_append, List.map_cons, List.map_nil]
def twoB (p : D) : List D := match p with
  | .tup ds => [.tup (ds ++ [.int 0]), .tup (ds ++ [.int 1])]
  | _ => []
theorem twoB_wy (p : List Bool) : twoB (wyT p) = [wyT (p ++ [false]), wyT (p ++ [true])] := by simp [twoB, wyT, bit]
theorem flat_two (l : List (List Bool)) : (l.map wyT).flatMap twoB = (l.flatMap fun c => [c ++ [false], c ++ [true]]).map wyT := by
  induction l with
  | nil => rfl
  | cons p l ih => rw [List.map_cons, List.flatMap_cons, ih, twoB_wy, List.flatMap_cons, List.map_append]; rfl
theorem ch_turn {F : CF} {v0 v2 v3 v4 : Option D} (l : List (List Bool)) (hp : ∀ p ∈ l, p.length ≤ 100) (hl : l.length ≤ 400) : ev F chI [v0, some (.lst (l.map wyT)), v2, v3, v4] S = some (.lst ((l.flatMap fun c => [c ++ [false], c ++ [true]]).map wyT), S) := by
  unfold chI
  rw [ev]
  have e0 : ev F (.v 1) [v0, some (.lst (l.map wyT)), v2, v3, v4] S = some (.lst (l.map wyT), S) := by simp [ev]
  have two : small 2 = true := rfl
  have e1 : ∀ ρ : Iv.Env, ev F (.tup (.cons (.c (.int 0)) (.cons (.c (.int 1)) .nil))) ρ S = some (.tup [.int 0, .int 1], S) := fun ρ => by
    simp only [ev, evs, List.length_cons, List.length_nil, Nat.zero_add, Nat.reduceAdd, two, if_true]
  simp only [e0, items]
  rw [comp2Run_all (h := twoB) (k := 2) (l.map wyT) [] (fun d hd => by
    obtain ⟨p, hpl, rfl⟩ := List.mem_map.mp hd
    refine ⟨by rw [twoB_wy]; rfl, [.int 0, .int 1], _, by simp only [setT, e1, items]; rfl, fun acc ha => ?_⟩
    have f1 := add_bit (F := F) (S := S) (v0 := v0) (v1 := some (.lst (l.map wyT))) (v2 := v2) p false (hp p hpl)
    have f2 := add_bit (F := F) (S := S) (v0 := v0) (v1 := some (.lst (l.map wyT))) (v2 := v2) p true (hp p hpl)
    simp only [bit, if_true, Bool.false_eq_true, if_false] at f1 f2
    have sm1 : small (acc.length + 1) = true := decide_eq_true (by omega)
    have sm2 : small (acc.length + 1 + 1) = true := decide_eq_true (by omega)
    simp only [compRun, setT, wipeT, List.set_cons_succ, List.set_cons_zero, f1, f2, sm1, sm2, if_true, List.length_append, List.length_cons, List.length_nil, Nat.zero_add, twoB_wy, List.append_assoc, List.cons_append, List.nil_append]) (by rw [List.length_map, List.length_nil]; omega)]
  rw [List.nil_append, flat_two]
  rfl
theorem chs_in : ∀ m, ∀ p ∈ chs m, p.length = m
  | 0, p, h => by cases h with | head => rfl | tail _ h => cases h
  | m + 1, p, h => by
    obtain ⟨q, hq, hp⟩ := List.mem_flatMap.mp h
    have := chs_in m q hq
    simp only [List.mem_cons, List.not_mem_nil, or_false] at hp
    rcases hp with rfl | rfl <;> rw [List.length_append, this] <;> rfl
def chB : Ss := (.cons (.asg (.n 1) chI) .nil)
theorem ch_loop {F : CF} {v0 v3 v4 : Option D} : ∀ (ds : List D) (m : Nat) (v2 : Option D), m + ds.length ≤ 8 → ∃ v2', forRun (.n 2) (fun ρ S => exs F w chB ρ S) ds [v0, some (.lst ((chs m).map wyT)), v2, v3, v4] S = some (.nx [v0, some (.lst ((chs (m + ds.length)).map wyT)), v2', v3, v4], S)
  | [], m, v2, _ => ⟨v2, rfl⟩
  | d :: ds, m, v2, h => by
    rw [List.length_cons] at h
    obtain ⟨v2', ih⟩ := ch_loop (F := F) (v0 := v0) (v3 := v3) (v4 := v4) ds (m + 1) (some d) (by omega)
    refine ⟨v2', ?_⟩
    have hc : (chs m).length ≤ 400 := by rw [chs_len]; exact Nat.le_trans (Nat.pow_le_pow_right (by decide) (show m ≤ 8 by omega)) (by decide)
    have e := ch_turn (F := F) (S := S) (v0 := v0) (v2 := some d) (v3 := v3) (v4 := v4) (chs m) (fun p hp => by rw [chs_in m p hp]; omega) hc
    simp only [forRun, setT, List.set_cons_succ, List.set_cons_zero, chB, exs, ex, e]
    rw [show m + (d :: ds).length = m + 1 + ds.length by rw [List.length_cons]; omega]
    exact ih
theorem rng_ok {F : CF} {ρ : Iv.Env} {i : Nat} {m : Nat} (h : ρ[i]? = some (some (.int m))) (hm : m ≤ 100000) : ev F (.rng (.c (.int 0)) (.v i)) ρ S = some (.lst ((List.range m).map fun (k : Nat) => .int (0 + k)), S) := by
  have g1 : (decide (-(2 ^ 62) ≤ (0 : Int)) && decide ((0 : Int) < 2 ^ 62) && decide (-(2 ^ 62) ≤ (m : Int)) && decide ((m : Int) < 2 ^ 62)) = true := by
    simp only [Bool.and_eq_true, decide_eq_true_eq]; omega
  have g2 : ((m : Int) - 0).toNat = m := by omega
  rw [ev]
  simp only [ev, h]
  rw [if_pos g1, g2]
theorem choices {m : Nat} (hm : m ≤ 3) : run T w (n + 5) 5 [.int m] S = some (.tup ((chs m).map wyT), S) := by
  refine run_rts t5 rfl rfl ?_
  obtain ⟨y, e⟩ := ch_loop (w := w) (S := S) (F := run T w (n + 4)) (v0 := some (.int m)) (v3 := none) (v4 := none) ((List.range m).map fun (k : Nat) => D.int (0 + k)) 0 none (by simp; omega)
  have hl : 0 + ((List.range m).map fun (k : Nat) => D.int (0 + k)).length = m := by simp
  rw [hl] at e
  have e1 := need_many (w := w) (n := n) (S := S) (m := m) (by omega) (by omega)
  have one : small 1 = true := rfl
  have zer : small 0 = true := rfl
  have s1 : ex (run T w (n + 4)) w (.ex (.call 3 (.cons (.v 0) .nil))) [some (.int m), none, none, none, none] S = some (.nx [some (.int m), none, none, none, none], S) := by
    simp only [ex, ev, evs, List.getElem?_cons_zero, e1]
  have s2 : ex (run T w (n + 4)) w (.asg (.n 1) (.lst (.cons (.tup .nil) .nil))) [some (.int m), none, none, none, none] S = some (.nx [some (.int m), some (.lst ((chs 0).map wyT)), none, none, none], S) := by
    simp only [ex, evs, ev, List.length_nil, List.length_cons, Nat.zero_add, one, zer, if_true, setT, List.set_cons_succ, List.set_cons_zero]
    rfl
  have s3 : ex (run T w (n + 4)) w (.for (.n 2) (.rng (.c (.int 0)) (.v 0)) chB) [some (.int m), some (.lst ((chs 0).map wyT)), none, none, none] S = some (.nx [some (.int m), some (.lst ((chs m).map wyT)), y, none, none], S) := by
    rw [ex, rng_ok (m := m) rfl (by omega)]
    simp only [items]
    exact e
  have s4 : ex (run T w (n + 4)) w (.ret (.bi .tuple (.cons (.v 1) .nil))) [some (.int m), some (.lst ((chs m).map wyT)), y, none, none] S = some (.rt (.tup ((chs m).map wyT)), S) := by
    simp only [exs, ex, ev, evs, List.getElem?_cons_succ, List.getElem?_cons_zero, seeAll, see, biD]
  have e3 : b_choices = .cons (.ex (.call 3 (.cons (.v 0) .nil))) (.cons (.asg (.n 1) (.lst (.cons (.tup .nil) .nil))) (.cons (.for (.n 2) (.rng (.c (.int 0)) (.v 0)) chB) (.cons (.ret (.bi .tuple (.cons (.v 1) .nil))) .nil))) := rfl
  show exs _ _ b_choices [some (.int m), none, none, none, none] S = _
  rw [e3, exs, s1]
  simp only []
  rw [exs, s2]
  simp only []
  rw [exs, s3]
  simp only []
  rw [exs, s4]
end Lk51

set_option Elab.async false
set_option linter.all false
set_option maxRecDepth 100000
set_option maxHeartbeats 4000000
namespace Lk51
open PySem Iv
variable {w n : Nat} {S : Sto}
def clo (S : Sto) : Prop := closedS S.length S = true
theorem leave_app {d : D} {X : Sto} (hd : D.pure d = true) (hc : clo S) : leave S.length d (S ++ X) = S := by
  unfold leave
  rw [List.take_left, hd, hc]
  rfl
theorem run_app {f : Nat} {fn : Fn} {ds : List D} {X : Sto} {d : D} (h : T[f]? = some fn) (hl : ds.length = fn.ar) (hc : clo S) (hd : D.pure d = true) (e : exs (run T w n) w fn.body (ds.map some ++ List.replicate (fn.sl - fn.ar) none) S = some (.rt d, S ++ X)) : run T w (n + 1) f ds S = some (d, S) := by
  rw [run_rt h hl e, leave_app hd hc]
def powT : Ss := (.cons (.asg (.n 2) (.op .Mult (.v 2) (.v 0))) .nil)
def powB : Ss := (.cons (.asg (.n 2) (.c (.int 1))) (.cons (.for (.n 3) (.rng (.c (.int 0)) (.v 1)) powT) (.cons (.ret (.v 2)) .nil)))
theorem op_mulW {i j K : Nat} (h1 : i < 2 ^ K) (h2 : j < 2 ^ K) (hK : K ≤ 400000) : opD .Mult (.int (i : Int)) (.int (j : Int)) = some (.int ((i * j : Nat) : Int)) := by
  have hp : 2 ^ K ≤ 2 ^ 400000 := Nat.pow_le_pow_right (by decide) hK
  show (if _ then _ else _) = _
  rw [if_pos ?_, Int.natCast_mul]
  rw [Bool.or_eq_true, Bool.and_eq_true, decide_eq_true_eq, decide_eq_true_eq]
  exact .inr ⟨Nat.lt_of_lt_of_le (by simpa using h1) hp, Nat.lt_of_lt_of_le (by simpa using h2) hp⟩
theorem pow_le {x a : Nat} (hx : x ≤ 2 ^ a) (t : Nat) : x ^ t ≤ 2 ^ (a * t) := by
  rw [Nat.pow_mul]
  exact Nat.pow_le_pow_left hx t
theorem pow_loop {F : CF} {x a : Nat} {v1 : Option D} (hx : x ≤ 2 ^ a) (ha : 1 ≤ a) : ∀ (ds : List D) (j : Nat) (v3 : Option D), a * (j + ds.length) ≤ 399000 → a ≤ 399000 → ∃ v3', forRun (.n 3) (fun ρ S => exs F w powT ρ S) ds [some (.int x), v1, some (.int (x ^ j : Nat)), v3] S = some (.nx [some (.int x), v1, some (.int (x ^ (j + ds.length) : Nat)), v3'], S)
  | [], j, v3, _, _ => ⟨v3, rfl⟩
  | d :: ds, j, v3, h, h2 => by
    rw [List.length_cons] at h
    obtain ⟨v3', ih⟩ := pow_loop (F := F) (x := x) (a := a) (v1 := v1) hx ha ds (j + 1) (some d) (by rw [show j + 1 + ds.length = j + (ds.length + 1) by omega]; exact h) h2
    refine ⟨v3', ?_⟩
    have b1 : a * j ≤ 399000 := Nat.le_trans (Nat.mul_le_mul_left _ (by omega)) h
    have e := op_mulW (i := x ^ j) (j := x) (K := 399001) (Nat.lt_of_le_of_lt (pow_le hx j) (Nat.pow_lt_pow_right (by decide) (by omega))) (Nat.lt_of_le_of_lt hx (Nat.pow_lt_pow_right (by decide) (by omega))) (by omega)
    rw [← Nat.pow_succ] at e
    rw [show j + (d :: ds).length = j + 1 + ds.length by rw [List.length_cons]; omega, ← ih]
    rw [forRun]
    simp only [setT, List.set_cons_succ, List.set_cons_zero, powT, exs, ex, ev, List.getElem?_cons_succ, List.getElem?_cons_zero, see, e]
theorem pow_run {f x t a : Nat} (hT : T[f]? = some ⟨2, 4, powB⟩) (hx : x ≤ 2 ^ a) (ha : 1 ≤ a) (ht : t ≤ 100000) (h : a * t ≤ 399000) (h2 : a ≤ 399000) : run T w (n + 1) f [.int x, .int t] S = some (.int (x ^ t : Nat), S) := by
  refine run_rts hT rfl rfl ?_
  obtain ⟨y, e⟩ := pow_loop (w := w) (S := S) (F := run T w n) (x := x) (a := a) (v1 := some (.int t)) hx ha ((List.range t).map fun (k : Nat) => D.int (0 + k)) 0 none (by simpa using h) h2
  have hl : 0 + ((List.range t).map fun (k : Nat) => D.int (0 + k)).length = t := by simp
  rw [hl] at e
  have s1 : ex (run T w n) w (.asg (.n 2) (.c (.int 1))) [some (.int x), some (.int t), none, none] S = some (.nx [some (.int x), some (.int t), some (.int (x ^ 0 : Nat)), none], S) := by
    simp [ex, ev, setT]
  have s2 : ex (run T w n) w (.for (.n 3) (.rng (.c (.int 0)) (.v 1)) powT) [some (.int x), some (.int t), some (.int (x ^ 0 : Nat)), none] S = some (.nx [some (.int x), some (.int t), some (.int (x ^ t : Nat)), y], S) := by
    rw [ex, rng_ok (m := t) rfl ht]
    simp only [items]
    exact e
  show exs _ _ powB [some (.int x), some (.int t), none, none] S = _
  rw [powB, exs, s1]
  simp only []
  rw [exs, s2]
  simp only [exs, ex, ev, List.getElem?_cons_succ, List.getElem?_cons_zero]
theorem raised_ok {x t a : Nat} (hx : x ≤ 2 ^ a) (ha : 1 ≤ a) (ht : t ≤ 100000) (h : a * t ≤ 399000) (h2 : a ≤ 399000) : run T w (n + 1) 8 [.int x, .int t] S = some (.int (x ^ t : Nat), S) := pow_run t8 hx ha ht h h2
theorem lpow_ok {x t a : Nat} (hx : x ≤ 2 ^ a) (ha : 1 ≤ a) (ht : t ≤ 100000) (h : a * t ≤ 399000) (h2 : a ≤ 399000) : run T w (n + 1) 20 [.int x, .int t] S = some (.int (x ^ t : Nat), S) := pow_run t20 hx ha ht h h2
def nb (v : Nat) : Nat := Builtin.Int.intBits (v : Int)
theorem bits_ok {v : Nat} : run T w (n + 1) 9 [.int v] S = some (.int (nb v : Nat), S) :=
  run_rts t9 rfl rfl (by simp [b_steps_of_places, exs, ex, ev, nb])
theorem nb_eq {v : Nat} (h : 1 ≤ v) : nb v = v.log2 + 1 := by
  unfold nb Builtin.Int.intBits
  rw [if_neg (by simp; omega)]
  simp
def ones : List Bool → Nat
  | [] => 0
  | c :: r => (if c then 1 else 0) + ones r
def spr (ws : List Int) : List Bool → Nat → List Int
  | [], _ => []
  | false :: r, k => 0 :: spr ws r k
  | true :: r, k => ws.getD k 0 :: spr ws r (k + 1)
theorem ones_le : ∀ c : List Bool, ones c ≤ c.length
  | [] => Nat.le_refl _
  | c :: r => by
    have := ones_le r
    cases c <;> simp only [ones, List.length_cons, if_true, Bool.false_eq_true, if_false] <;> omega
def spT : Ss := (.cons (.ex (.meth .append (.v 2) (.cons (.ite (.cmp .Eq (.v 4) (.c (.int 1))) (.ix (.v 1) (.v 3)) (.c (.int 0))) .nil))) (.cons (.asg (.n 3) (.op .Add (.v 3) (.v 4))) .nil))
theorem get_end {S : Sto} {x : Option (List D)} : (S ++ [x])[S.length]? = some x := by
  rw [List.getElem?_append_right (Nat.le_refl _), Nat.sub_self]
  rfl
theorem set_end {S : Sto} {x y : Option (List D)} : (S ++ [x]).set S.length y = S ++ [y] := by
  rw [List.set_append_right _ _ (Nat.le_refl _), Nat.sub_self]
  rfl
def nextF (b : Bool) (ws : List Int) (k : Nat) : Int := if b then ws.getD k 0 else 0
theorem see_int {S : Sto} {i : Int} : see S (.int i) = some (.int i) := rfl
theorem see_end {S : Sto} {x : List D} : see (S ++ [some x]) (.ref S.length) = some (.lst x) := by
  simp only [see, get_end]
theorem sp_turn {F : CF} {v0 : Option D} {wd : D} {ws : List Int} (hw : ∀ X, see (S ++ X) wd = some (.lst (ws.map D.int))) (b : Bool) (k : Nat) (fs : List Int) (h : k < ws.length ∨ b = false) (hl : fs.length < 1000) :
    exs F w spT [v0, some wd, some (.ref S.length), some (.int k), some (.int (bit b))] (S ++ [some (fs.map D.int)]) = some (.nx [v0, some wd, some (.ref S.length), some (.int ((k + (if b then 1 else 0) : Nat) : Int)), some (.int (bit b))], S ++ [some ((fs ++ [nextF b ws k]).map D.int)]) := by
  have sm : small (fs.length + 1) = true := decide_eq_true (by omega)
  cases b with
  | false =>
    have z : cmpD .Eq (.int 0) (.int 1) = some false := rfl
    simp only [spT, exs, ex, ev, evs, bit, Bool.false_eq_true, if_false, List.getElem?_cons_succ, List.getElem?_cons_zero, see, get_end, z, meD, List.length_map, sm, if_true, set_end, Option.isSome, op_add, Int.add_zero, setT, List.set_cons_succ, List.set_cons_zero, nextF, List.map_append, List.map_cons, List.map_nil, Nat.add_zero]
  | true =>
    have hk : k < ws.length := h.resolve_right (by simp)
    have z : cmpD .Eq (.int 1) (.int 1) = some true := rfl
    have z2 : ixD (.lst (ws.map D.int)) (.int (k : Int)) = some (.int (ws.getD k 0)) := by
      show L2.atI (ws.map D.int) (k : Int) = _
      rw [atI_nat (by simpa using hk), List.getElem?_map, List.getElem?_eq_getElem hk, List.getD_eq_getElem?_getD, List.getElem?_eq_getElem hk]
      rfl
    have z3 : ((k : Int) + 1) = ((k + 1 : Nat) : Int) := by omega
    simp only [spT, exs, ex, ev, evs, bit, if_true, List.getElem?_cons_succ, List.getElem?_cons_zero, see_int, see_end, get_end, z, hw, z2, meD, List.length_map, sm, set_end, Option.isSome, op_add, z3, setT, List.set_cons_succ, List.set_cons_zero, nextF, List.map_append, List.map_cons, List.map_nil]
theorem sp_loop {F : CF} {v0 : Option D} {wd : D} {ws : List Int} (hw : ∀ X, see (S ++ X) wd = some (.lst (ws.map D.int))) : ∀ (c : List Bool) (k : Nat) (fs : List Int) (v4 : Option D), k + ones c ≤ ws.length → fs.length + c.length ≤ 1000 →
    ∃ v3' v4', forRun (.n 4) (fun ρ S => exs F w spT ρ S) (c.map fun b => D.int (bit b)) [v0, some wd, some (.ref S.length), some (.int k), v4] (S ++ [some (fs.map D.int)]) = some (.nx [v0, some wd, some (.ref S.length), v3', v4'], S ++ [some ((fs ++ spr ws c k).map D.int)])
  | [], k, fs, v4, _, _ => ⟨some (.int k), v4, by simp [forRun, spr]⟩
  | b :: c, k, fs, v4, h, hl => by
    rw [List.length_cons] at hl
    have hk : k < ws.length ∨ b = false := by
      cases b with
      | false => exact .inr rfl
      | true => simp only [ones, if_true] at h; exact .inl (by omega)
    obtain ⟨x3, x4, ih⟩ := sp_loop (F := F) (v0 := v0) hw c (k + (if b then 1 else 0)) (fs ++ [nextF b ws k]) (some (.int (bit b))) (by simp only [ones] at h; omega) (by rw [List.length_append]; simp only [List.length_cons, List.length_nil]; omega)
    refine ⟨x3, x4, ?_⟩
    have e := sp_turn (F := F) (w := w) (v0 := v0) hw b k fs hk (by omega)
    rw [List.map_cons, forRun]
    simp only [setT, List.set_cons_succ, List.set_cons_zero, e]
    rw [ih]
    have : fs ++ spr ws (b :: c) k = (fs ++ [nextF b ws k]) ++ spr ws c (k + (if b then 1 else 0)) := by cases b <;> simp [spr, nextF]
    rw [this]
theorem spread_ok {wd : D} {ws : List Int} {c : List Bool} (hc : clo S) (hw : ∀ X, see (S ++ X) wd = some (.lst (ws.map D.int))) (h : ones c ≤ ws.length) (hl : c.length ≤ 900) : run T w (n + 1) 10 [wyT c, wd] S = some (.tup ((spr ws c 0).map D.int), S) := by
  obtain ⟨x3, x4, e⟩ := sp_loop (w := w) (F := run T w n) (v0 := some (wyT c)) hw c 0 [] none (by omega) (by rw [List.length_nil]; omega)
  refine run_app (X := [some ((spr ws c 0).map D.int)]) t10 rfl hc (by rw [D.pure]; exact pures_ints _) ?_
  have s1 : ex (run T w n) w (.par [2, 3] (.cons (.new .nil) (.cons (.c (.int 0)) .nil))) [some (wyT c), some wd, none, none, none] S = some (.nx [some (wyT c), some wd, some (.ref S.length), some (.int (0 : Nat)), none], S ++ [some (([] : List Int).map D.int)]) := by
    have zer : small 0 = true := rfl
    simp [ex, ev, evs, mkList, zer]
  have s2 : ex (run T w n) w (.for (.n 4) (.v 0) spT) [some (wyT c), some wd, some (.ref S.length), some (.int (0 : Nat)), none] (S ++ [some (([] : List Int).map D.int)]) = some (.nx [some (wyT c), some wd, some (.ref S.length), x3, x4], S ++ [some ((spr ws c 0).map D.int)]) := by
    rw [ex]
    simp only [ev, List.getElem?_cons_zero, wyT, items]
    exact e
  have e3 : b_spread = .cons (.par [2, 3] (.cons (.new .nil) (.cons (.c (.int 0)) .nil))) (.cons (.for (.n 4) (.v 0) spT) (.cons (.ret (.bi .tuple (.cons (.v 2) .nil))) .nil)) := rfl
  show exs _ _ b_spread [some (wyT c), some wd, none, none, none] S = _
  rw [e3, exs, s1]
  simp only []
  rw [exs, s2]
  simp only [exs, ex, ev, evs, List.getElem?_cons_succ, List.getElem?_cons_zero, seeAll, see, get_end, biD]
def firstQ (c : List Bool) : List Int := c.map fun b => 2 * bit b
def secQ (v b : Nat) : List Bool → Nat → List Int
  | [], _ => []
  | false :: r, t => 0 :: secQ v b r t
  | true :: r, t => (((v + 1) ^ t : Nat) : Int) :: secQ v b r (t * b)
def wl (v b j : Nat) : List Int := (List.range (j + 1)).map fun i => (((v + 1) ^ (b ^ i) : Nat) : Int)
theorem spr_two : ∀ (c : List Bool) (k m : Nat), k + ones c ≤ m → spr (List.replicate m 2) c k = firstQ c
  | [], _, _, _ => rfl
  | false :: c, k, m, h => by
    simp only [ones, Bool.false_eq_true, if_false] at h
    simp only [spr, firstQ, List.map_cons, bit, Bool.false_eq_true, if_false]
    rw [spr_two c k m (by omega)]
    rfl
  | true :: c, k, m, h => by
    simp only [ones, if_true] at h
    have : (List.replicate m (2 : Int)).getD k 0 = 2 := by
      rw [List.getD_eq_getElem?_getD, List.getElem?_replicate, if_pos (by omega)]
      rfl
    simp only [spr, firstQ, List.map_cons, bit, if_true, this]
    rw [spr_two c (k + 1) m (by omega)]
    rfl
theorem spr_sec (v b j : Nat) : ∀ (c : List Bool) (k : Nat), k + ones c ≤ j + 1 → spr (wl v b j) c k = secQ v b c (b ^ k)
  | [], _, _ => rfl
  | false :: c, k, h => by
    simp only [ones, Bool.false_eq_true, if_false] at h
    simp only [spr, secQ]
    rw [spr_sec v b j c k (by omega)]
  | true :: c, k, h => by
    simp only [ones, if_true] at h
    have : (wl v b j).getD k 0 = (((v + 1) ^ (b ^ k) : Nat) : Int) := by
      rw [List.getD_eq_getElem?_getD, wl, List.getElem?_map, List.getElem?_range (by omega)]
      rfl
    simp only [spr, secQ, this]
    rw [spr_sec v b j c (k + 1) (by omega), Nat.pow_succ]
end Lk51

set_option Elab.async false
set_option linter.all false
set_option maxRecDepth 100000
set_option maxHeartbeats 4000000
namespace Lk51
open PySem Iv
variable {w n : Nat} {S : Sto}
mutual
theorem under_mono {m k : Nat} (h : m ≤ k) : ∀ d : D, D.under m d = true → D.under k d = true
  | .non, _ => rfl
  | .bl _, _ => rfl
  | .int _, _ => rfl
  | .str _, _ => rfl
  | .tup xs, q => unders_mono h xs q
  | .lst xs, q => unders_mono h xs q
  | .ref i, q => by
    have q' : decide (i < m) = true := q
    exact decide_eq_true (Nat.lt_of_lt_of_le (of_decide_eq_true q') h)
theorem unders_mono {m k : Nat} (h : m ≤ k) : ∀ xs : List D, D.unders m xs = true → D.unders k xs = true
  | [], _ => rfl
  | x :: xs, q => by
    have q' : (D.under m x && D.unders m xs) = true := q
    rw [Bool.and_eq_true] at q'
    show (D.under k x && D.unders k xs) = true
    rw [under_mono h x q'.1, unders_mono h xs q'.2]
    rfl
end
theorem unders_ints (m : Nat) : ∀ c : List Int, D.unders m (c.map D.int) = true
  | [] => rfl
  | _ :: c => by
    show (true && D.unders m (c.map D.int)) = true
    rw [unders_ints m c]
    rfl
theorem closed_mono {m k : Nat} (h : m ≤ k) (q : closedS m S = true) : closedS k S = true :=
  List.all_eq_true.mpr fun o ho => by
    have := List.all_eq_true.mp q o ho
    cases o with
    | none => rfl
    | some xs => exact unders_mono h xs this
theorem clo_app {xs : List D} (h : clo S) (q : D.unders (S.length + 1) xs = true) : clo (S ++ [some xs]) := by
  unfold clo
  rw [List.length_append]
  refine List.all_eq_true.mpr fun o ho => ?_
  rcases List.mem_append.mp ho with ho | ho
  · exact List.all_eq_true.mp (closed_mono (Nat.le_succ _) h) o ho
  · cases List.mem_singleton.mp ho
    exact q
theorem atI_last {α : Type} {xs : List α} {m : Nat} (h : xs.length = m + 1) : L2.atI xs (-1) = xs[m]? := by
  have e : L2.ixN (m + 1) (-1) = some m := by
    unfold L2.ixN
    rw [if_neg (by omega), if_pos (by omega)]
    congr 1
    omega
  unfold L2.atI
  rw [h, e]
  rfl
theorem sum_bits : ∀ c : List Bool, (c.map bit).sum = (ones c : Int)
  | [] => rfl
  | b :: c => by
    rw [List.map_cons, List.sum_cons, sum_bits c]
    cases b <;> simp [bit, ones]
theorem ints_map : ∀ c : List Int, ints? (c.map D.int) = some c
  | [] => rfl
  | x :: c => by simp [ints?, ints_map c]
theorem sum_wy (c : List Bool) : biD .sum [wyT c] = some (.int (ones c)) := by
  show (ints? (c.map fun b => D.int (bit b))).map _ = _
  rw [map_bit, ints_map, Option.map_some, sum_bits]
def seT : Ss := (.cons (.ex (.meth .append (.v 2) (.cons (.call 8 (.cons (.ix (.v 2) (.neg (.c (.int 1)))) (.cons (.call 9 (.cons (.v 1) .nil)) .nil))) .nil))) .nil)
theorem wl_len (v b j : Nat) : (wl v b j).length = j + 1 := by rw [wl, List.length_map, List.length_range]
theorem wl_succ (v b j : Nat) : wl v b (j + 1) = wl v b j ++ [(((v + 1) ^ (b ^ (j + 1)) : Nat) : Int)] := by
  rw [wl, List.range_succ, List.map_append]
  rfl
theorem bound (v : Nat) (h1 : 1 ≤ v) : v + 1 ≤ 2 ^ nb v := by
  rw [nb_eq h1]
  exact Nat.lt_log2_self
theorem se_turn {v0 v3 : Option D} {v j : Nat} (h1 : 1 ≤ v) (hb : nb v ≤ 60) (hj : j ≤ 1) :
    exs (run T w (n + 1)) w seT [v0, some (.int v), some (.ref S.length), v3] (S ++ [some ((wl v (nb v) j).map D.int)]) = some (.nx [v0, some (.int v), some (.ref S.length), v3], S ++ [some ((wl v (nb v) (j + 1)).map D.int)]) := by
  have hp := bound v h1
  have b1 : 1 ≤ nb v := by rw [nb_eq h1]; omega
  have z1 : ixD (.lst ((wl v (nb v) j).map D.int)) (.int (-1)) = some (.int (((v + 1) ^ (nb v ^ j) : Nat) : Int)) := by
    show L2.atI _ (-1) = _
    rw [atI_last (m := j) (by rw [List.length_map, wl_len]), List.getElem?_map, wl, List.getElem?_map, List.getElem?_range (by omega)]
    rfl
  have q1 : nb v * nb v ^ j ≤ 3600 := by
    have : nb v ^ j ≤ 60 := by
      rcases (show j = 0 ∨ j = 1 by omega) with rfl | rfl
      · simp
      · simpa using hb
    exact Nat.le_trans (Nat.mul_le_mul hb this) (by decide)
  have q2 : 1 ≤ nb v * nb v ^ j := Nat.mul_pos b1 (Nat.pow_pos b1)
  have e := raised_ok (w := w) (n := n) (S := S ++ [some ((wl v (nb v) j).map D.int)]) (x := (v + 1) ^ (nb v ^ j)) (t := nb v) (a := nb v * nb v ^ j) (pow_le hp _) q2 (by omega) (Nat.le_trans (Nat.mul_le_mul q1 hb) (by decide)) (by omega)
  rw [← Nat.pow_mul, ← Nat.pow_succ] at e
  have e2 := bits_ok (w := w) (n := n) (S := S ++ [some ((wl v (nb v) j).map D.int)]) (v := v)
  have sm : small (j + 1 + 1) = true := decide_eq_true (by omega)
  rw [wl_succ, List.map_append]
  simp only [seT, exs, ex, ev, evs, List.getElem?_cons_succ, List.getElem?_cons_zero, see_end, Option.isSome, if_true, z1, e2, e, meD, get_end, List.length_map, wl_len, sm, set_end, List.map_cons, List.map_nil]
theorem se_loop {v0 : Option D} {v : Nat} (h1 : 1 ≤ v) (hb : nb v ≤ 60) : ∀ (ds : List D) (j : Nat) (v3 : Option D), j + ds.length ≤ 2 → ∃ v3', forRun (.n 3) (fun ρ S => exs (run T w (n + 1)) w seT ρ S) ds [v0, some (.int v), some (.ref S.length), v3] (S ++ [some ((wl v (nb v) j).map D.int)]) = some (.nx [v0, some (.int v), some (.ref S.length), v3'], S ++ [some ((wl v (nb v) (j + ds.length)).map D.int)])
  | [], j, v3, _ => ⟨v3, rfl⟩
  | d :: ds, j, v3, h => by
    rw [List.length_cons] at h
    obtain ⟨y, ih⟩ := se_loop (v0 := v0) (v := v) h1 hb ds (j + 1) (some d) (by omega)
    refine ⟨y, ?_⟩
    have e := se_turn (w := w) (n := n) (S := S) (v0 := v0) (v3 := some d) (v := v) (j := j) h1 hb (by omega)
    rw [forRun]
    simp only [setT, List.set_cons_succ, List.set_cons_zero, e]
    rw [ih, show j + (d :: ds).length = j + 1 + ds.length by rw [List.length_cons]; omega]
theorem rng1_ok {F : CF} {ρ : Iv.Env} {e : E} {m : Nat} (h : ev F e ρ S = some (.int m, S)) (hm : m ≤ 100000) : ev F (.rng (.c (.int 1)) e) ρ S = some (.lst ((List.range (m - 1)).map fun (k : Nat) => .int (1 + k)), S) := by
  have g1 : (decide (-(2 ^ 62) ≤ (1 : Int)) && decide ((1 : Int) < 2 ^ 62) && decide (-(2 ^ 62) ≤ (m : Int)) && decide ((m : Int) < 2 ^ 62)) = true := by
    simp only [Bool.and_eq_true, decide_eq_true_eq]; omega
  have g2 : ((m : Int) - 1).toNat = m - 1 := by omega
  rw [ev]
  simp only [ev, h]
  rw [if_pos g1, g2]
theorem second_ok {v : Nat} {c : List Bool} (hc : clo S) (h1 : 1 ≤ v) (hb : nb v ≤ 60) (hl : c.length ≤ 3) (ho : 1 ≤ ones c) : run T w (n + 2) 11 [wyT c, .int v] S = some (.tup ((secQ v (nb v) c 1).map D.int), S) := by
  have hoc := ones_le c
  obtain ⟨y, e⟩ := se_loop (w := w) (n := n) (S := S) (v0 := some (wyT c)) (v := v) h1 hb ((List.range (ones c - 1)).map fun (k : Nat) => D.int (1 + k)) 0 none (by rw [List.length_map, List.length_range]; omega)
  rw [List.length_map, List.length_range, show 0 + (ones c - 1) = ones c - 1 by omega] at e
  have s1 : ex (run T w (n + 1)) w (.asg (.n 2) (.new (.cons (.op .Add (.v 1) (.c (.int 1))) .nil))) [some (wyT c), some (.int v), none, none] S = some (.nx [some (wyT c), some (.int v), some (.ref S.length), none], S ++ [some ((wl v (nb v) 0).map D.int)]) := by
    have one : small 1 = true := rfl
    have z : wl v (nb v) 0 = [(v : Int) + 1] := by
      have q : ((v + 1) ^ (nb v ^ 0) : Nat) = v + 1 := by rw [Nat.pow_zero, Nat.pow_one]
      show [(((v + 1) ^ (nb v ^ 0) : Nat) : Int)] = _
      rw [q]
      rfl
    simp only [ex, ev, evs, List.getElem?_cons_succ, List.getElem?_cons_zero, see_int, op_add, List.length_cons, List.length_nil, Nat.zero_add, one, if_true, mkList, setT, List.set_cons_succ, List.set_cons_zero, z, List.map_cons, List.map_nil]
  have s2 : ex (run T w (n + 1)) w (.for (.n 3) (.rng (.c (.int 1)) (.bi .sum (.cons (.v 0) .nil))) seT) [some (wyT c), some (.int v), some (.ref S.length), none] (S ++ [some ((wl v (nb v) 0).map D.int)]) = some (.nx [some (wyT c), some (.int v), some (.ref S.length), y], S ++ [some ((wl v (nb v) (ones c - 1)).map D.int)]) := by
    have q : ev (run T w (n + 1)) (.bi .sum (.cons (.v 0) .nil)) [some (wyT c), some (.int v), some (.ref S.length), none] (S ++ [some ((wl v (nb v) 0).map D.int)]) = some (.int (ones c), S ++ [some ((wl v (nb v) 0).map D.int)]) := by
      simp only [ev, evs, List.getElem?_cons_zero, seeAll, show see (S ++ [some ((wl v (nb v) 0).map D.int)]) (wyT c) = some (wyT c) from rfl, sum_wy]
    rw [ex, rng1_ok q (by omega)]
    simp only [items]
    exact e
  have hc2 : clo (S ++ [some ((wl v (nb v) (ones c - 1)).map D.int)]) := clo_app hc (unders_ints _ _)
  have e4 := spread_ok (w := w) (n := n) (S := S ++ [some ((wl v (nb v) (ones c - 1)).map D.int)]) (wd := .ref S.length) (ws := wl v (nb v) (ones c - 1)) (c := c) hc2 (fun X => by
    have : (S ++ [some ((wl v (nb v) (ones c - 1)).map D.int)] ++ X)[S.length]? = some (some ((wl v (nb v) (ones c - 1)).map D.int)) := by
      rw [List.getElem?_append_left (by rw [List.length_append]; simp), get_end]
    simp only [see, this]) (by rw [wl_len]; omega) (by omega)
  rw [spr_sec v (nb v) (ones c - 1) c 0 (by omega), Nat.pow_zero] at e4
  refine run_app (X := [some ((wl v (nb v) (ones c - 1)).map D.int)]) t11 rfl hc (by rw [D.pure]; exact pures_ints _) ?_
  have e3 : b_second_numbers = .cons (.asg (.n 2) (.new (.cons (.op .Add (.v 1) (.c (.int 1))) .nil))) (.cons (.for (.n 3) (.rng (.c (.int 1)) (.bi .sum (.cons (.v 0) .nil))) seT) (.cons (.ret (.call 10 (.cons (.v 0) (.cons (.v 2) .nil)))) .nil)) := rfl
  show exs _ _ b_second_numbers [some (wyT c), some (.int v), none, none] S = _
  rw [e3, exs, s1]
  simp only []
  rw [exs, s2]
  simp only [exs, ex, ev, evs, List.getElem?_cons_succ, List.getElem?_cons_zero, e4]
theorem cmp_nil (xs : List Int) : cmpD .Eq (.lst (xs.map D.int)) (.lst []) = some (decide (xs = [])) := by
  show (if _ then _ else _) = _
  rw [if_pos (by rw [ok_ints, ok_nil]; rfl), eqv_nil]
  cases xs <;> rfl
theorem next_first {c : List Bool} (hc : clo S) (hl : c.length ≤ 3) : run T w (n + 2) 12 [wyT c, .lst []] S = some (.tup ((firstQ c).map D.int), S) := by
  have e := spread_ok (w := w) (n := n) (S := S) (wd := .lst ((List.replicate c.length (2 : Int)).map D.int)) (ws := List.replicate c.length 2) (c := c) hc (fun X => rfl) (by rw [List.length_replicate]; exact ones_le c) (by omega)
  rw [spr_two c 0 c.length (by have := ones_le c; omega)] at e
  have z1 := cmp_nil []
  have z2 : opD .Mult (.lst [.int 2]) (.int (c.length : Int)) = some (.lst ((List.replicate c.length (2 : Int)).map D.int)) := by
    have g : (small ([D.int 2].length * (c.length : Int).toNat) && (decide (-100000 ≤ (c.length : Int)) && decide ((c.length : Int) ≤ 100000))) = true := by
      rw [Bool.and_eq_true, Bool.and_eq_true, decide_eq_true_eq, decide_eq_true_eq]
      exact ⟨decide_eq_true (by simp only [List.length_cons, List.length_nil]; omega), by omega, by omega⟩
    show (if _ then _ else _) = _
    rw [if_pos g]
    congr 2
    rw [Int.toNat_natCast, List.map_replicate]
    generalize c.length = k
    induction k with
    | zero => rfl
    | succ k ih => rw [List.replicate_succ, List.flatten_cons, ih, List.replicate_succ]; rfl
  have z3 : biD .len [wyT c] = some (.int c.length) := by rw [wyT, len_tup, List.length_map]
  have one : small 1 = true := rfl
  refine run_rts t12 rfl rfl ?_
  have e3 : ∀ (ρ : Iv.Env), ρ[0]? = some (some (wyT c)) → ev (run T w (n + 1)) (.op .Mult (.lst (.cons (.g "FIRST" (.int 2)) .nil)) (.bi .len (.cons (.v 0) .nil))) ρ S = some (.lst ((List.replicate c.length (2 : Int)).map D.int), S) := fun ρ hρ => by
    simp only [ev, evs, hρ, List.length_cons, List.length_nil, Nat.zero_add, one, if_true, seeAll, show see S (wyT c) = some (wyT c) from rfl, z3, see_int, show see S (.lst [.int 2]) = some (.lst [.int 2]) from rfl, z2]
  show exs _ _ b_next_of [some (wyT c), some (.lst [])] S = _
  have s0 : ev (run T w (n + 1)) (.cmp .Eq (.v 1) (.lst .nil)) [some (wyT c), some (.lst [])] S = some (.bl true, S) := by
    have zer : small 0 = true := rfl
    simp only [ev, evs, List.getElem?_cons_succ, List.getElem?_cons_zero, List.length_nil, zer, if_true, see]
    have z1' : cmpD .Eq (.lst []) (.lst []) = some true := z1
    rw [z1']
  have s4 : evs (run T w (n + 1)) (.cons (.v 0) (.cons (.op .Mult (.lst (.cons (.g "FIRST" (.int 2)) .nil)) (.bi .len (.cons (.v 0) .nil))) .nil)) [some (wyT c), some (.lst [])] S = some ([wyT c, .lst ((List.replicate c.length (2 : Int)).map D.int)], S) := by
    rw [evs, ev]
    simp only [List.getElem?_cons_zero]
    rw [evs, e3 _ rfl]
    simp only [evs]
  rw [b_next_of, exs, ex, s0]
  simp only []
  rw [exs, ex, ev, s4]
  simp only [e]
theorem next_at {c : List Bool} {r : Nat} {cur : List Int} (hc : clo S) (hl : c.length ≤ 3) (hr : S[r]? = some (some (cur.map D.int))) (hcur : cur ≠ []) (o : D)
    (ho : (ones c = 0 ∨ cur.length = 2 ∨ (∃ v, cur[0]? = some v ∧ v ≤ 1)) ∧ o = .non ∨ (∃ v : Nat, cur = [(v : Int)] ∧ 2 ≤ v ∧ nb v ≤ 60 ∧ ones c ≠ 0 ∧ o = .tup ((secQ v (nb v) c 1).map D.int))) :
    run T w (n + 3) 12 [wyT c, .ref r] S = some (o, S) := by
  have hs : see S (.ref r) = some (.lst (cur.map D.int)) := by simp only [see, hr]
  have zer : small 0 = true := rfl
  have s0 : ev (run T w (n + 2)) (.cmp .Eq (.v 1) (.lst .nil)) [some (wyT c), some (.ref r)] S = some (.bl false, S) := by
    simp only [ev, evs, List.getElem?_cons_succ, List.getElem?_cons_zero, List.length_nil, zer, if_true, hs, show see S (.lst []) = some (.lst []) from rfl, cmp_nil, decide_eq_false hcur]
  have s1 : ev (run T w (n + 2)) (.cmp .Eq (.bi .sum (.cons (.v 0) .nil)) (.c (.int 0))) [some (wyT c), some (.ref r)] S = some (.bl (decide (ones c = 0)), S) := by
    have : (decide ((ones c : Int) = 0)) = decide (ones c = 0) := by rw [decide_eq_decide]; omega
    simp only [ev, evs, List.getElem?_cons_zero, seeAll, show see S (wyT c) = some (wyT c) from rfl, sum_wy, see_int, cmpD, this]
  have s2 : ev (run T w (n + 2)) (.cmp .Eq (.bi .len (.cons (.v 1) .nil)) (.c (.int 2))) [some (wyT c), some (.ref r)] S = some (.bl (decide (cur.length = 2)), S) := by
    have : (decide ((cur.length : Int) = 2)) = decide (cur.length = 2) := by rw [decide_eq_decide]; omega
    simp only [ev, evs, List.getElem?_cons_succ, List.getElem?_cons_zero, seeAll, hs, len_lst, List.length_map, see_int, cmpD, this]
  obtain ⟨v0, rest, rfl⟩ := List.exists_cons_of_ne_nil hcur
  have s3 : ev (run T w (n + 2)) (.cmp .LtE (.ix (.v 1) (.c (.int 0))) (.c (.int 1))) [some (wyT c), some (.ref r)] S = some (.bl (decide (v0 ≤ 1)), S) := by
    have z : ixD (.lst ((v0 :: rest).map D.int)) (.int 0) = some (.int v0) := by
      show L2.atI _ ((0 : Nat) : Int) = _
      rw [atI_nat (by simp)]
      rfl
    simp only [ev, List.getElem?_cons_succ, List.getElem?_cons_zero, hs, z, see_int, cmpD]
  refine run_rts t12 rfl rfl ?_
  show exs _ _ b_next_of [some (wyT c), some (.ref r)] S = _
  rw [b_next_of, exs, ex, s0]
  simp only [exs]
  rw [ex, ev, s1]
  by_cases o1 : ones c = 0
  · have ho' : o = .non := by
      rcases ho with ⟨_, h⟩ | ⟨v, _, _, _, h, _⟩
      · exact h
      · exact absurd o1 h
    subst ho'
    simp only [decide_eq_true o1, exs, ex, ev]
  · simp only [decide_eq_false o1]
    rw [ev, s2]
    by_cases o2 : (v0 :: rest).length = 2
    · have ho' : o = .non := by
        rcases ho with ⟨_, h⟩ | ⟨v, h, _⟩
        · exact h
        · rw [h] at o2; cases o2
      subst ho'
      simp only [decide_eq_true o2, exs, ex, ev]
    · simp only [decide_eq_false o2]
      rw [s3]
      rcases ho with ⟨h, rfl⟩ | ⟨v, h1, h2, h3, h4, rfl⟩
      · have hv : v0 ≤ 1 := by
          rcases h with h | h | ⟨v, h, h'⟩
          · exact absurd h o1
          · exact absurd h o2
          · cases h; exact h'
        simp only [decide_eq_true hv, exs, ex, ev]
      · injection h1 with h1 h1'
        subst h1 h1'
        have hv : ¬ ((v : Int) ≤ 1) := by omega
        have e := second_ok (w := w) (n := n) (S := S) (v := v) (c := c) hc (by omega) h3 hl (by omega)
        have z : ixD (.lst ([(v : Int)].map D.int)) (.int 0) = some (.int v) := rfl
        simp only [decide_eq_false hv, exs, ex, ev, evs, List.getElem?_cons_succ, List.getElem?_cons_zero, hs, z, e]
end Lk51

set_option Elab.async false
set_option linter.all false
set_option maxRecDepth 100000
set_option maxHeartbeats 4000000
namespace Lk51
open PySem Iv
variable {w n : Nat} {S : Sto}
def mosts : Nat → Nat
  | 1 => 10 ^ 18
  | 2 => 10 ^ 4
  | 3 => 200
  | _ => 0
theorem need_small {v k : Nat} (hk : k ≤ 3) (h : k = 0 ∨ v ≤ mosts k) : run T w (n + 1) 13 [.int v, .int k] S = some (.non, S) := by
  have key : ∀ m : Nat, mosts k = m → k ≠ 0 → ixD (.tup [.non, (.int 1000000000000000000), (.int 10000), (.int 200)]) (.int k) = some (.int m) → run T w (n + 1) 13 [.int v, .int k] S = some (.non, S) := fun m hm hk0 hix => by
    have hv : ¬ ((m : Int) < (v : Int)) := by
      have := h.resolve_left hk0
      rw [hm] at this
      omega
    refine run_nxs (ρ := [some (.int v), some (.int k), some (.int m)]) t13 rfl rfl ?_
    simp [b_need_small, exs, ex, ev, see, hix, setT, cmpD, hv]
  rcases (show k = 0 ∨ k = 1 ∨ k = 2 ∨ k = 3 by omega) with rfl | rfl | rfl | rfl
  · refine run_nxs (ρ := [some (.int v), some (.int (0 : Nat)), some .non]) t13 rfl rfl ?_
    have hix : ixD (.tup [.non, (.int 1000000000000000000), (.int 10000), (.int 200)]) (.int (0 : Nat)) = some .non := rfl
    simp only [b_need_small, exs, ex, ev, see, List.map_cons, List.map_nil, List.cons_append, List.nil_append, List.getElem?_cons_succ, List.getElem?_cons_zero, hix, setT, List.set_cons_succ, List.set_cons_zero, cmpD, List.replicate]
  · exact key (10 ^ 18) rfl (by decide) rfl
  · exact key (10 ^ 4) rfl (by decide) rfl
  · exact key 200 rfl (by decide) rfl
def ansF (to : Bool) (a : Bool × List Int × Int) : D := if to then .tup [row a.1 a.2.1, .int a.2.2] else .lst [row a.1 a.2.1, .int a.2.2]
def AnsOk (m : Nat) (a : Bool × List Int × Int) : Prop := (∀ x ∈ a.2.1, 0 ≤ x) ∧ a.2.1.length = m ∧ 0 ≤ a.2.2
theorem see_row {t : Bool} {c : List Int} : see S (row t c) = some (row t c) := by cases t <;> rfl
theorem len_row {t : Bool} {c : List Int} : biD .len [row t c] = some (.int c.length) := by
  cases t
  · show biD .len [.lst (c.map D.int)] = _
    rw [len_lst, List.length_map]
  · show biD .len [.tup (c.map D.int)] = _
    rw [len_tup, List.length_map]
theorem is_answer {to : Bool} {m : Nat} {a : Bool × List Int × Int} (h : AnsOk m a) (hm : m ≤ 3) : run T w (n + 4) 6 [ansF to a, .int m] S = some (.bl true, S) := by
  obtain ⟨t, q, x⟩ := a
  obtain ⟨h1, h2, h3⟩ := h
  simp only at h1 h2 h3
  have e1 := are_numbers (w := w) (n := n) (S := S) (t := t) (c := q) h1 (by omega)
  have e2 := withinN (w := w) (n := n + 1) (S := S) (i := x) h3
  refine run_rts t6 rfl rfl ?_
  have g1 : see S (ansF to (t, q, x)) = some (ansF to (t, q, x)) := by cases to <;> rfl
  have g2 : ([Ty.list, Ty.tuple].any (isTy (ansF to (t, q, x)))) = true := by cases to <;> rfl
  have g3 : biD .len [ansF to (t, q, x)] = some (.int 2) := by cases to <;> rfl
  have g4 : ixD (ansF to (t, q, x)) (.int 0) = some (row t q) := by cases to <;> rfl
  have g5 : ixD (ansF to (t, q, x)) (.int 1) = some (.int x) := by cases to <;> rfl
  have g6 : cmpD .NotEq (.int 2) (.int 2) = some false := rfl
  have g7 : cmpD .Eq (.int (q.length : Int)) (.int m) = some true := by rw [h2]; show some (decide ((m : Int) = m)) = _; rw [decide_eq_true rfl]
  simp only [b_is_answer, exs, ex, ev, evs, List.map_cons, List.map_nil, List.cons_append, List.nil_append, List.getElem?_cons_succ, List.getElem?_cons_zero, g1, g2, g3, g4, g5, g6, g7, Bool.not_true, seeAll, see_int, see_row, len_row, e1, e2]
theorem are_answers {to tx : Bool} {m : Nat} {L : List (Bool × List Int × Int)} (h : ∀ a ∈ L, AnsOk m a) (hm : m ≤ 3) (hl : L.length ≤ 1000) : run T w (n + 5) 7 [if tx then .tup (L.map (ansF to)) else .lst (L.map (ansF to)), .int m] S = some (.bl true, S) := by
  generalize hX : (if tx then D.tup (L.map (ansF to)) else D.lst (L.map (ansF to))) = X
  have g0 : items X = some (L.map (ansF to)) := by rw [← hX]; cases tx <;> rfl
  have g1 : see S X = some X := by rw [← hX]; cases tx <;> rfl
  have g2 : ([Ty.list, Ty.tuple].any (isTy X)) = true := by rw [← hX]; cases tx <;> rfl
  refine run_rts t7 rfl rfl ?_
  have e2 : ev (run T w (n + 4)) (.comp false (.n 2) (.v 0) (.call 6 (.cons (.v 2) (.cons (.v 1) .nil)))) [some X, some (.int m), none] S = some (.lst ((L.map (ansF to)).map fun _ => .bl true), S) :=
    ev_comp (x := X) (g := fun _ => .bl true) (by simp [ev]) g0 (fun d hd => by
      obtain ⟨a, ha, rfl⟩ := List.mem_map.mp hd
      have := is_answer (w := w) (n := n) (S := S) (to := to) (h a ha) hm
      exact ⟨_, rfl, by simp only [ev, evs, wipeT, List.set_cons_succ, List.set_cons_zero, List.getElem?_cons_succ, List.getElem?_cons_zero, this]⟩) (by rw [List.length_map]; omega)
  have e3 : biD .all [.lst ((L.map (ansF to)).map fun _ => D.bl true)] = some (.bl true) := all_trueD fun x hx => by
    obtain ⟨_, _, rfl⟩ := List.mem_map.mp hx
    rfl
  have s1 : ev (run T w (n + 4)) (.isi (.v 0) [.list, .tuple]) [some X, some (.int m), none] S = some (.bl true, S) := by
    simp only [ev, List.getElem?_cons_zero, g1, g2]
  have s2 : ev (run T w (n + 4)) (.bi .all (.cons (.comp false (.n 2) (.v 0) (.call 6 (.cons (.v 2) (.cons (.v 1) .nil)))) .nil)) [some X, some (.int m), none] S = some (.bl true, S) := by
    rw [ev, evs, e2]
    simp only [evs, seeAll, see, e3]
  show exs _ _ b_are_answers [some X, some (.int m), none] S = _
  rw [b_are_answers, exs, ex, ev, s1]
  simp only [s2]
theorem need_answers {to tx : Bool} {m : Nat} {L : List (Bool × List Int × Int)} (h : ∀ a ∈ L, AnsOk m a) (hm : m ≤ 3) (hl : L.length ≤ 1000) : run T w (n + 6) 15 [.int m, if tx then .tup (L.map (ansF to)) else .lst (L.map (ansF to))] S = some (.non, S) := by
  have e1 := need_many (w := w) (n := n + 1) (S := S) (m := m) (by omega) (by omega)
  have e2 := are_answers (w := w) (n := n) (S := S) (to := to) (tx := tx) h hm hl
  generalize (if tx then D.tup (L.map (ansF to)) else D.lst (L.map (ansF to))) = X at e2 ⊢
  refine run_nxs (ρ := [some (.int m), some X]) t15 rfl rfl ?_
  simp only [b_need_answers, exs, ex, ev, evs, List.map_cons, List.map_nil, List.cons_append, List.nil_append, List.getElem?_cons_succ, List.getElem?_cons_zero, e1, e2, Bool.not_true, List.replicate]
  rfl
structure VS (S0 S : Sto) (k : Nat) (cur : List Int) : Prop where
  pre : S.take S0.length = S0
  cl : clo S
  at_ : ∃ (R : List D) (r : Nat), S[S0.length + 1]? = some (some R) ∧ R.length = k + 1 ∧ R[k]? = some (.ref r) ∧ S[r]? = some (some (cur.map D.int)) ∧ S0.length ≤ r ∧ r ≠ S0.length + 1
theorem ok_intsT (c : List Int) : D.ok (.tup (c.map D.int)) = true := by
  simp [D.ok, D.pure, D.py, PyData.canLay0, PyData.depth, pures_ints, pys_ints, lay_ints, depth_ints]
theorem eqvAll_ints : ∀ a b : List Int, PyData.eqvAll (a.map PyData.int) (b.map PyData.int) = decide (a = b)
  | [], [] => by simp [PyData.eqvAll]
  | [], _ :: _ => by simp [PyData.eqvAll]
  | _ :: _, [] => by simp [PyData.eqvAll]
  | x :: a, y :: b => by
    simp only [List.map_cons, PyData.eqvAll, PyData.eqv, eqvAll_ints a b]
    by_cases h1 : x = y <;> by_cases h2 : a = b <;> simp [h1, h2]
theorem ne_tup (a b : List Int) : cmpD .NotEq (.tup (a.map D.int)) (.tup (b.map D.int)) = some (!decide (a = b)) := by
  show (if _ then _ else _) = _
  rw [if_pos (by rw [ok_intsT, ok_intsT]; rfl)]
  simp only [D.eqv, D.py, pys_ints, PyData.eqv, eqvAll_ints]
theorem eq_tup (a b : List Int) : cmpD .Eq (.tup (a.map D.int)) (.tup (b.map D.int)) = some (decide (a = b)) := by
  show (if _ then _ else _) = _
  rw [if_pos (by rw [ok_intsT, ok_intsT]; rfl)]
  simp only [D.eqv, D.py, pys_ints, PyData.eqv, eqvAll_ints]
theorem tup_row {t : Bool} {c : List Int} : biD .tuple [row t c] = some (.tup (c.map D.int)) := by cases t <;> rfl
def loA : St := (.ifs (.or (.cmp .Is (.v 4) (.c .non)) (.cmp .NotEq (.bi .tuple (.cons (.v 5) .nil)) (.v 4))) (.cons .never .nil) .nil)
def loB : St := (.asg (.n 7) (.ix (.v 2) (.op .Sub (.bi .len (.cons (.v 3) .nil)) (.c (.int 1)))))
def loC : St := (.ifs (.cmp .Eq (.ix (.v 3) (.neg (.c (.int 1)))) (.lst .nil)) (.cons (.ex (.call 13 (.cons (.v 6) (.cons (.bi .sum (.cons (.v 7) .nil)) .nil)))) .nil) .nil)
def loD : St := (.ex (.meth .append (.ix (.v 3) (.neg (.c (.int 1)))) (.cons (.v 6) .nil)))
def loE : St := (.asg (.n 4) (.call 12 (.cons (.v 7) (.cons (.ix (.v 3) (.neg (.c (.int 1)))) .nil))))
def loP : Ss := (.cons (.asg (.n 4) (.call 12 (.cons (.ix (.v 2) (.bi .len (.cons (.v 3) .nil))) (.cons (.lst .nil) .nil)))) (.cons (.ex (.meth .append (.v 3) (.cons (.new .nil) .nil))) .nil))
def loF : St := (.ifs (.and (.cmp .Is (.v 4) (.c .non)) (.cmp .Lt (.bi .len (.cons (.v 3) .nil)) (.bi .len (.cons (.v 2) .nil)))) loP .nil)
def loT : Ss := (.cons loA (.cons loB (.cons loC (.cons loD (.cons loE (.cons loF .nil))))))
theorem sorted_body : b_sorted_out = (.cons (.par [2, 3] (.cons (.call 5 (.cons (.v 0) .nil)) (.cons (.new (.cons (.new .nil) .nil)) .nil))) (.cons (.asg (.n 4) (.call 12 (.cons (.ix (.v 2) (.c (.int 0))) (.cons (.lst .nil) .nil)))) (.cons (.for (.t [5, 6]) (.v 1) loT) (.cons (.ret (.tup (.cons (.v 3) (.cons (.v 4) .nil)))) .nil)))) := rfl
section
variable {F : CF} {a0 a1 v7 : Option D} {C : List (List Bool)} {p r k : Nat} {R : List D} {cur q : List Int} {t : Bool} {x : Nat} {c : List Bool} {wnt : D}
theorem lo_A : ex F w loA [a0, a1, some (.tup (C.map wyT)), some (.ref p), some (.tup (q.map D.int)), some (row t q), some (.int x), v7] S = some (.nx [a0, a1, some (.tup (C.map wyT)), some (.ref p), some (.tup (q.map D.int)), some (row t q), some (.int x), v7], S) := by
  have z1 : cmpD .Is (.tup (q.map D.int)) .non = some false := rfl
  have z2 : cmpD .NotEq (.tup (q.map D.int)) (.tup (q.map D.int)) = some false := by rw [ne_tup, decide_eq_true rfl]; rfl
  have z3 : see S (.tup (q.map D.int)) = some (.tup (q.map D.int)) := rfl
  have z4 : see S .non = some .non := rfl
  simp only [loA, ex, exs, ev, evs, List.getElem?_cons_succ, List.getElem?_cons_zero, z1, z2, z3, z4, seeAll, see_row, tup_row]
theorem lo_B (hR : S[p]? = some (some R)) (hl : R.length = k + 1) (hC : C[k]? = some c) : ex F w loB [a0, a1, some (.tup (C.map wyT)), some (.ref p), some wnt, some (row t q), some (.int x), v7] S = some (.nx [a0, a1, some (.tup (C.map wyT)), some (.ref p), some wnt, some (row t q), some (.int x), some (wyT c)], S) := by
  have z1 : see S (.ref p) = some (.lst R) := by simp only [see, hR]
  have hk := (List.getElem?_eq_some_iff.mp hC).1
  have z2 : ixD (.tup (C.map wyT)) (.int k) = some (wyT c) := by
    rw [ix_tup, atI_nat (by simpa using hk), List.getElem?_map, hC]
    rfl
  have z3 : (((k + 1 : Nat) : Int) - 1) = k := by omega
  have z4 : see S (.tup (C.map wyT)) = some (.tup (C.map wyT)) := rfl
  simp only [loB, ex, exs, ev, evs, List.getElem?_cons_succ, List.getElem?_cons_zero, seeAll, z1, len_lst, hl, see_int, op_sub, z3, z2, z4, setT, List.set_cons_succ, List.set_cons_zero]
theorem last_ref {ρ : Iv.Env} (hρ : ρ[3]? = some (some (.ref p))) (hR : S[p]? = some (some R)) (hl : R.length = k + 1) (hr : R[k]? = some (.ref r)) : ev F (.ix (.v 3) (.neg (.c (.int 1)))) ρ S = some (.ref r, S) := by
  have z1 : see S (.ref p) = some (.lst R) := by simp only [see, hR]
  have z2 : ixD (.lst R) (.int (-1)) = some (.ref r) := by rw [ix_lst, atI_last hl, hr]
  simp only [ev, hρ, z1, z2]
theorem lo_C (hR : S[p]? = some (some R)) (hl : R.length = k + 1) (hr : R[k]? = some (.ref r)) (hc : S[r]? = some (some (cur.map D.int))) (hs : cur = [] → ones c ≤ 3 ∧ (ones c = 0 ∨ x ≤ mosts (ones c))) :
    ex (run T w (n + 1)) w loC [a0, a1, some (.tup (C.map wyT)), some (.ref p), some wnt, some (row t q), some (.int x), some (wyT c)] S = some (.nx [a0, a1, some (.tup (C.map wyT)), some (.ref p), some wnt, some (row t q), some (.int x), some (wyT c)], S) := by
  have e := last_ref (F := run T w (n + 1)) (S := S) (ρ := [a0, a1, some (.tup (C.map wyT)), some (.ref p), some wnt, some (row t q), some (.int x), some (wyT c)]) rfl hR hl hr
  have z1 : see S (.ref r) = some (.lst (cur.map D.int)) := by simp only [see, hc]
  have zer : small 0 = true := rfl
  have s1 : ev (run T w (n + 1)) (.cmp .Eq (.ix (.v 3) (.neg (.c (.int 1)))) (.lst .nil)) [a0, a1, some (.tup (C.map wyT)), some (.ref p), some wnt, some (row t q), some (.int x), some (wyT c)] S = some (.bl (decide (cur = [])), S) := by
    rw [ev, e]
    simp only [ev, evs, List.length_nil, zer, if_true, z1, show see S (.lst []) = some (.lst []) from rfl, cmp_nil]
  rw [loC, ex, s1]
  by_cases h : cur = []
  · have e2 := need_small (w := w) (n := n) (S := S) (v := x) (k := ones c) (hs h).1 (hs h).2
    simp only [decide_eq_true h, exs, ex, ev, evs, List.getElem?_cons_succ, List.getElem?_cons_zero, seeAll, show see S (wyT c) = some (wyT c) from rfl, sum_wy, e2]
  · simp only [decide_eq_false h, exs]
theorem lo_D (hR : S[p]? = some (some R)) (hl : R.length = k + 1) (hr : R[k]? = some (.ref r)) (hc : S[r]? = some (some (cur.map D.int))) (hz : cur.length ≤ 10) {ρ : Iv.Env} (h3 : ρ[3]? = some (some (.ref p))) (h6 : ρ[6]? = some (some (.int x))) :
    ex F w loD ρ S = some (.nx ρ, S.set r (some ((cur ++ [(x : Int)]).map D.int))) := by
  have e := last_ref (F := F) (S := S) h3 hR hl hr
  have z1 : see S (.ref r) = some (.lst (cur.map D.int)) := by simp only [see, hc]
  have sm : small (cur.length + 1) = true := decide_eq_true (by omega)
  rw [loD, ex, ev, e]
  simp only [z1, Option.isSome, if_true, evs, ev, h6, meD, hc, List.length_map, sm, List.map_append, List.map_cons, List.map_nil]
theorem lo_E {o : D} (hR : S[p]? = some (some R)) (hl : R.length = k + 1) (hr : R[k]? = some (.ref r)) (hn : run T w (n + 3) 12 [wyT c, .ref r] S = some (o, S)) :
    ex (run T w (n + 3)) w loE [a0, a1, some (.tup (C.map wyT)), some (.ref p), some wnt, some (row t q), some (.int x), some (wyT c)] S = some (.nx [a0, a1, some (.tup (C.map wyT)), some (.ref p), some o, some (row t q), some (.int x), some (wyT c)], S) := by
  have e := last_ref (F := run T w (n + 3)) (S := S) (ρ := [a0, a1, some (.tup (C.map wyT)), some (.ref p), some wnt, some (row t q), some (.int x), some (wyT c)]) rfl hR hl hr
  have s1 : evs (run T w (n + 3)) (.cons (.v 7) (.cons (.ix (.v 3) (.neg (.c (.int 1)))) .nil)) [a0, a1, some (.tup (C.map wyT)), some (.ref p), some wnt, some (row t q), some (.int x), some (wyT c)] S = some ([wyT c, .ref r], S) := by
    rw [evs, ev]
    simp only [List.getElem?_cons_succ, List.getElem?_cons_zero]
    rw [evs, e]
    simp only [evs]
  rw [loE, ex, ev, s1]
  simp only [hn, setT, List.set_cons_succ, List.set_cons_zero]
theorem lo_F1 : ex F w loF [a0, a1, some (.tup (C.map wyT)), some (.ref p), some (.tup (q.map D.int)), some wnt, some (.int x), v7] S = some (.nx [a0, a1, some (.tup (C.map wyT)), some (.ref p), some (.tup (q.map D.int)), some wnt, some (.int x), v7], S) := by
  have z1 : cmpD .Is (.tup (q.map D.int)) .non = some false := rfl
  have z3 : see S (.tup (q.map D.int)) = some (.tup (q.map D.int)) := rfl
  have z4 : see S .non = some .non := rfl
  simp only [loF, ex, exs, ev, evs, List.getElem?_cons_succ, List.getElem?_cons_zero, z1, z3, z4]
theorem lo_cond {ρ : Iv.Env} (h4 : ρ[4]? = some (some .non)) (h3 : ρ[3]? = some (some (.ref p))) (h2 : ρ[2]? = some (some (.tup (C.map wyT)))) (hR : S[p]? = some (some R)) (hl : R.length = k + 1) :
    ev F (.and (.cmp .Is (.v 4) (.c .non)) (.cmp .Lt (.bi .len (.cons (.v 3) .nil)) (.bi .len (.cons (.v 2) .nil)))) ρ S = some (.bl (decide (k + 1 < C.length)), S) := by
  have z1 : cmpD .Is .non .non = some true := rfl
  have z4 : see S .non = some .non := rfl
  have z5 : see S (.ref p) = some (.lst R) := by simp only [see, hR]
  have z6 : see S (.tup (C.map wyT)) = some (.tup (C.map wyT)) := rfl
  have z7 : decide (((k + 1 : Nat) : Int) < (C.length : Int)) = decide (k + 1 < C.length) := by rw [decide_eq_decide]; omega
  simp only [ev, evs, h4, h3, h2, z4, z1, seeAll, z5, z6, len_lst, len_tup, hl, List.length_map, see_int, cmpD, z7]
theorem lo_F2 (hR : S[p]? = some (some R)) (hl : R.length = k + 1) (hk : C.length ≤ k + 1) : ex F w loF [a0, a1, some (.tup (C.map wyT)), some (.ref p), some .non, some wnt, some (.int x), v7] S = some (.nx [a0, a1, some (.tup (C.map wyT)), some (.ref p), some .non, some wnt, some (.int x), v7], S) := by
  rw [loF, ex, lo_cond (C := C) (p := p) (R := R) (k := k) rfl rfl rfl hR hl, decide_eq_false (by omega)]
  simp only [exs]
theorem lo_F3 {d : List Bool} (hcl : clo S) (hR : S[p]? = some (some R)) (hl : R.length = k + 1) (hz : k ≤ 10) (hd : C[k + 1]? = some d) (hd3 : d.length ≤ 3) :
    ex (run T w (n + 2)) w loF [a0, a1, some (.tup (C.map wyT)), some (.ref p), some .non, some wnt, some (.int x), v7] S = some (.nx [a0, a1, some (.tup (C.map wyT)), some (.ref p), some (.tup ((firstQ d).map D.int)), some wnt, some (.int x), v7], (S ++ [some ([] : List D)]).set p (some (R ++ [D.ref S.length]))) := by
  have hk := (List.getElem?_eq_some_iff.mp hd).1
  have e := next_first (w := w) (n := n) (S := S) (c := d) hcl hd3
  have z5 : see S (.ref p) = some (.lst R) := by simp only [see, hR]
  have z2 : ixD (.tup (C.map wyT)) (.int ((k + 1 : Nat) : Int)) = some (wyT d) := by
    rw [ix_tup, atI_nat (by simpa using hk), List.getElem?_map, hd]
    rfl
  have z6 : see S (.tup (C.map wyT)) = some (.tup (C.map wyT)) := rfl
  have zer : small 0 = true := rfl
  have hp := (List.getElem?_eq_some_iff.mp hR).1
  have s1 : ex (run T w (n + 2)) w (.asg (.n 4) (.call 12 (.cons (.ix (.v 2) (.bi .len (.cons (.v 3) .nil))) (.cons (.lst .nil) .nil)))) [a0, a1, some (.tup (C.map wyT)), some (.ref p), some .non, some wnt, some (.int x), v7] S = some (.nx [a0, a1, some (.tup (C.map wyT)), some (.ref p), some (.tup ((firstQ d).map D.int)), some wnt, some (.int x), v7], S) := by
    simp only [ex, ev, evs, List.getElem?_cons_succ, List.getElem?_cons_zero, seeAll, z5, len_lst, hl, z6, z2, List.length_nil, zer, if_true, e, setT, List.set_cons_succ, List.set_cons_zero]
  have g1 : (S ++ [some ([] : List D)])[p]? = some (some R) := by rw [List.getElem?_append_left hp, hR]
  have sm : small (k + 1 + 1) = true := decide_eq_true (by omega)
  have s2 : ∀ ρ : Iv.Env, ρ[3]? = some (some (.ref p)) → ex (run T w (n + 2)) w (.ex (.meth .append (.v 3) (.cons (.new .nil) .nil))) ρ S = some (.nx ρ, (S ++ [some ([] : List D)]).set p (some (R ++ [D.ref S.length]))) := fun ρ hρ => by
    simp only [ex, ev, evs, hρ, z5, Option.isSome, if_true, List.length_nil, zer, mkList, meD, g1, hl, sm]
  rw [loF, ex, lo_cond (C := C) (p := p) (R := R) (k := k) rfl rfl rfl hR hl, decide_eq_true (show k + 1 < C.length from hk)]
  simp only []
  rw [loP, exs, s1]
  simp only []
  rw [exs, s2 _ rfl]
  simp only [exs]
end
theorem take_set {α : Type} {l : List α} {i m : Nat} {x : α} (h : m ≤ i) : (l.set i x).take m = l.take m := by
  apply List.ext_getElem?
  intro j
  rw [List.getElem?_take, List.getElem?_take]
  split
  · rw [List.getElem?_set_ne (by omega)]
  · rfl
theorem clo_set {r : Nat} {xs : List D} (h : clo S) (q : D.unders S.length xs = true) : clo (S.set r (some xs)) := by
  unfold clo
  rw [List.length_set]
  refine List.all_eq_true.mpr fun o ho => ?_
  rcases List.mem_or_eq_of_mem_set ho with ho | rfl
  · exact List.all_eq_true.mp h o ho
  · exact q
theorem unders_app {m : Nat} : ∀ {xs ys : List D}, D.unders m xs = true → D.unders m ys = true → D.unders m (xs ++ ys) = true
  | [], _, _, h => h
  | x :: xs, ys, h, h' => by
    have q : (D.under m x && D.unders m xs) = true := h
    rw [Bool.and_eq_true] at q
    show (D.under m x && D.unders m (xs ++ ys)) = true
    rw [q.1, unders_app q.2 h']
    rfl
theorem clo_get {i : Nat} {xs : List D} (h : clo S) (e : S[i]? = some (some xs)) : D.unders S.length xs = true := List.all_eq_true.mp h (some xs) (List.mem_of_getElem? e)
variable {S0 : Sto} {k r : Nat} {cur : List Int} {R : List D}
theorem vs_add {y : Int} (hp : S.take S0.length = S0) (hc : clo S) (h1 : S[S0.length + 1]? = some (some R)) (h2 : R.length = k + 1) (h3 : R[k]? = some (.ref r)) (h4 : S[r]? = some (some (cur.map D.int))) (h5 : S0.length ≤ r) (h6 : r ≠ S0.length + 1) :
    VS S0 (S.set r (some ((cur ++ [y]).map D.int))) k (cur ++ [y]) ∧ (S.set r (some ((cur ++ [y]).map D.int)))[S0.length + 1]? = some (some R) ∧ (S.set r (some ((cur ++ [y]).map D.int)))[r]? = some (some ((cur ++ [y]).map D.int)) := by
  have lr := (List.getElem?_eq_some_iff.mp h4).1
  have g1 : (S.set r (some ((cur ++ [y]).map D.int)))[S0.length + 1]? = some (some R) := by rw [List.getElem?_set_ne h6, h1]
  have g2 : (S.set r (some ((cur ++ [y]).map D.int)))[r]? = some (some ((cur ++ [y]).map D.int)) := List.getElem?_set_self lr
  exact ⟨⟨by rw [take_set h5, hp], clo_set hc (unders_ints _ _), R, r, g1, h2, h3, g2, h5, h6⟩, g1, g2⟩
theorem vs_push (v : VS S0 S k cur) (h1 : S[S0.length + 1]? = some (some R)) (h2 : R.length = k + 1) : VS S0 ((S ++ [some ([] : List D)]).set (S0.length + 1) (some (R ++ [D.ref S.length]))) (k + 1) [] := by
  have lp := (List.getElem?_eq_some_iff.mp h1).1
  have cA : clo (S ++ [some ([] : List D)]) := clo_app v.cl rfl
  have lA : (S ++ [some ([] : List D)]).length = S.length + 1 := by rw [List.length_append]; rfl
  refine ⟨?_, clo_set cA ?_, R ++ [D.ref S.length], S.length, ?_, by rw [List.length_append, h2]; rfl, ?_, ?_, by omega, by omega⟩
  · rw [take_set (by omega), List.take_append_of_le_length (by omega), v.pre]
  · rw [lA]
    refine unders_app (unders_mono (Nat.le_succ _) _ (clo_get v.cl h1)) ?_
    show (decide (S.length < S.length + 1) && true) = true
    rw [decide_eq_true (Nat.lt_succ_self _)]
    rfl
  · rw [List.getElem?_set_self (by rw [lA]; omega)]
  · rw [List.getElem?_append_right (by omega), h2, Nat.sub_self]
    rfl
  · rw [List.getElem?_set_ne (by omega), get_end]
    rfl
end Lk51

set_option Elab.async false
set_option linter.all false
set_option maxRecDepth 100000
set_option maxHeartbeats 4000000
namespace Lk51
open PySem Iv
variable {w n : Nat} {S : Sto}
structure Inf where
  c : List Bool
  v : Nat
  u : Nat
def Inf.two (i : Inf) : Bool := decide (ones i.c ≠ 0) && decide (2 ≤ i.v)
def Inf.sec (i : Inf) : List Int := secQ i.v (nb i.v) i.c 1
def Inf.fl (i : Inf) : List (List Int × Int) := if i.two then [(firstQ i.c, (i.v : Int)), (i.sec, (i.u : Int))] else [(firstQ i.c, (i.v : Int))]
structure InfOk (m : Nat) (i : Inf) : Prop where
  len : i.c.length = m
  le : ones i.c = 0 ∨ i.v ≤ mosts (ones i.c)
def fl (is : List Inf) : List (List Int × Int) := is.flatMap Inf.fl
def wantD : List (List Int × Int) → D
  | [] => .non
  | p :: _ => .tup (p.1.map D.int)
theorem nb_le {v : Nat} (h1 : 1 ≤ v) (h : v ≤ 10 ^ 18) : nb v ≤ 60 := by
  rw [nb_eq h1]
  have : v.log2 < 60 := (Nat.log2_lt (by omega)).mpr (Nat.lt_of_le_of_lt h (by decide))
  omega
theorem mosts_le : ∀ k, k ≤ 3 → mosts k ≤ 10 ^ 18 := by decide
section
variable {S0 : Sto} {C : List (List Bool)} {a0 a1 v7 : Option D} {k : Nat} {cur q : List Int} {t : Bool} {x : Nat} {c : List Bool}
/-- an answer is taken in -/
theorem turn (v : VS S0 S k cur) (hC : C[k]? = some c) (hl : c.length ≤ 3) (hk : k ≤ 10) (hs : cur = [] → ones c = 0 ∨ x ≤ mosts (ones c)) (hz : cur.length ≤ 1) (o : D)
    (ho : (ones c = 0 ∨ (cur ++ [(x : Int)]).length = 2 ∨ (∃ v, (cur ++ [(x : Int)])[0]? = some v ∧ v ≤ 1)) ∧ o = .non ∨ (∃ v : Nat, cur ++ [(x : Int)] = [(v : Int)] ∧ 2 ≤ v ∧ nb v ≤ 60 ∧ ones c ≠ 0 ∧ o = .tup ((secQ v (nb v) c 1).map D.int)))
    (hC3 : ∀ d ∈ C, d.length ≤ 3) :
    ∃ S' w', exs (run T w (n + 3)) w loT [a0, a1, some (.tup (C.map wyT)), some (.ref (S0.length + 1)), some (.tup (q.map D.int)), some (row t q), some (.int x), v7] S = some (.nx [a0, a1, some (.tup (C.map wyT)), some (.ref (S0.length + 1)), some w', some (row t q), some (.int x), some (wyT c)], S') ∧
      ((o ≠ .non ∧ w' = o ∧ VS S0 S' k (cur ++ [(x : Int)])) ∨ (o = .non ∧ C.length ≤ k + 1 ∧ w' = .non ∧ VS S0 S' k (cur ++ [(x : Int)])) ∨ (o = .non ∧ ∃ d, C[k + 1]? = some d ∧ w' = .tup ((firstQ d).map D.int) ∧ VS S0 S' (k + 1) [])) := by
  obtain ⟨hp, hc, R, r, h1, h2, h3, h4, h5, h6⟩ := id v
  obtain ⟨v2, g1, g2⟩ := vs_add (y := (x : Int)) hp hc h1 h2 h3 h4 h5 h6
  have sA := lo_A (F := run T w (n + 3)) (w := w) (S := S) (a0 := a0) (a1 := a1) (v7 := v7) (C := C) (p := S0.length + 1) (q := q) (t := t) (x := x)
  have sB := lo_B (F := run T w (n + 3)) (w := w) (S := S) (a0 := a0) (a1 := a1) (v7 := v7) (C := C) (p := S0.length + 1) (q := q) (t := t) (x := x) (wnt := .tup (q.map D.int)) h1 h2 hC
  have sC := lo_C (n := n + 2) (w := w) (S := S) (a0 := a0) (a1 := a1) (C := C) (p := S0.length + 1) (q := q) (t := t) (x := x) (wnt := .tup (q.map D.int)) (c := c) h1 h2 h3 h4 fun z => ⟨Nat.le_trans (ones_le c) hl, hs z⟩
  have sD := lo_D (F := run T w (n + 3)) (w := w) (S := S) (p := S0.length + 1) (x := x) h1 h2 h3 h4 (by omega) (ρ := [a0, a1, some (.tup (C.map wyT)), some (.ref (S0.length + 1)), some (.tup (q.map D.int)), some (row t q), some (.int x), some (wyT c)]) rfl rfl
  have hn := next_at (w := w) (n := n) (S := S.set r (some ((cur ++ [(x : Int)]).map D.int))) (c := c) (r := r) (cur := cur ++ [(x : Int)]) v2.cl hl g2 (by simp) o ho
  have sE := lo_E (w := w) (n := n) (a0 := a0) (a1 := a1) (C := C) (q := q) (t := t) (x := x) (wnt := .tup (q.map D.int)) (c := c) (o := o) g1 h2 h3 hn
  have start : ∀ {res}, ex (run T w (n + 3)) w loF [a0, a1, some (.tup (C.map wyT)), some (.ref (S0.length + 1)), some o, some (row t q), some (.int x), some (wyT c)] (S.set r (some ((cur ++ [(x : Int)]).map D.int))) = some res →
      exs (run T w (n + 3)) w loT [a0, a1, some (.tup (C.map wyT)), some (.ref (S0.length + 1)), some (.tup (q.map D.int)), some (row t q), some (.int x), v7] S = exs (run T w (n + 3)) w (.cons loF .nil) [a0, a1, some (.tup (C.map wyT)), some (.ref (S0.length + 1)), some o, some (row t q), some (.int x), some (wyT c)] (S.set r (some ((cur ++ [(x : Int)]).map D.int))) := fun _ => by
    rw [loT, exs, sA]
    simp only []
    rw [exs, sB]
    simp only []
    rw [exs, sC]
    simp only []
    rw [exs, sD]
    simp only []
    rw [exs, sE]
  rcases ho with ⟨_, rfl⟩ | ⟨v0, _, _, _, _, rfl⟩
  · by_cases hk2 : C.length ≤ k + 1
    · have sF := lo_F2 (F := run T w (n + 3)) (w := w) (S := S.set r (some ((cur ++ [(x : Int)]).map D.int))) (a0 := a0) (a1 := a1) (v7 := some (wyT c)) (C := C) (wnt := row t q) (x := x) g1 h2 hk2
      refine ⟨_, .non, ?_, .inr (.inl ⟨rfl, hk2, rfl, v2⟩)⟩
      rw [start sF, exs, sF]
      simp only [exs]
    · have hd : C[k + 1]? = some C[k + 1] := List.getElem?_eq_getElem (by omega)
      have sF := lo_F3 (w := w) (n := n + 1) (S := S.set r (some ((cur ++ [(x : Int)]).map D.int))) (a0 := a0) (a1 := a1) (v7 := some (wyT c)) (C := C) (wnt := row t q) (x := x) v2.cl g1 h2 hk hd (hC3 _ (List.getElem_mem _))
      refine ⟨_, _, ?_, .inr (.inr ⟨rfl, C[k + 1], hd, rfl, vs_push v2 g1 h2⟩)⟩
      rw [start sF, exs, sF]
      simp only [exs]
  · have sF := lo_F1 (F := run T w (n + 3)) (w := w) (S := S.set r (some ((cur ++ [(x : Int)]).map D.int))) (a0 := a0) (a1 := a1) (v7 := some (wyT c)) (C := C) (p := S0.length + 1) (q := secQ v0 (nb v0) c 1) (wnt := row t q) (x := x)
    refine ⟨_, _, ?_, .inl ⟨by simp, rfl, v2⟩⟩
    rw [start sF, exs, sF]
    simp only [exs]
end
/-- all answers that are told -/
theorem all_turns {S0 : Sto} {C : List (List Bool)} {a0 a1 : Option D} {to : Bool} {m : Nat} (hm : m ≤ 3) (hC3 : ∀ d ∈ C, d.length ≤ 3) (hCl : C.length ≤ 10) : ∀ (rest : List Inf) (A : List (Bool × List Int × Int)) (tail : List (List Int × Int)) (k : Nat) (S : Sto) (i : Inf) (v5 v6 v7 : Option D),
    (∀ i ∈ rest, InfOk m i) → C.drop k = rest.map Inf.c → A.map (·.2) ++ tail = fl rest → rest.head? = some i → VS S0 S k [] →
    ∃ S' v5' v6' v7', forRun (.t [5, 6]) (fun ρ S => exs (run T w (n + 3)) w loT ρ S) (A.map (ansF to)) [a0, a1, some (.tup (C.map wyT)), some (.ref (S0.length + 1)), some (.tup ((firstQ i.c).map D.int)), v5, v6, v7] S = some (.nx [a0, a1, some (.tup (C.map wyT)), some (.ref (S0.length + 1)), some (wantD tail), v5', v6', v7'], S') ∧ S'.take S0.length = S0
  | [], _, _, _, _, _, _, _, _, _, _, _, h, _ => by cases h
  | i :: rest, A, tail, k, S, j, v5, v6, v7, hok, hd, hA, hi, hv => by
    cases hi
    obtain ⟨ij, hle⟩ := hok i List.mem_cons_self
    have hCk : C[k]? = some i.c := by
      have := congrArg (·[0]?) hd
      simpa using this
    have hdk : C.drop (k + 1) = rest.map Inf.c := by
      rw [← List.drop_drop, hd]
      rfl
    have hk := (List.getElem?_eq_some_iff.mp hCk).1
    have hl : i.c.length ≤ 3 := by omega
    -- what comes behind a choice
    have behind : ∀ (A2 : List (Bool × List Int × Int)) (S2 : Sto) (w' : D) (cur2 : List Int) (y5 y6 y7 : Option D), A2.map (·.2) ++ tail = fl rest →
        ((C.length ≤ k + 1 ∧ w' = .non ∧ VS S0 S2 k cur2) ∨ (∃ d, C[k + 1]? = some d ∧ w' = .tup ((firstQ d).map D.int) ∧ VS S0 S2 (k + 1) [])) →
        ∃ S' v5' v6' v7', forRun (.t [5, 6]) (fun ρ S => exs (run T w (n + 3)) w loT ρ S) (A2.map (ansF to)) [a0, a1, some (.tup (C.map wyT)), some (.ref (S0.length + 1)), some w', y5, y6, y7] S2 = some (.nx [a0, a1, some (.tup (C.map wyT)), some (.ref (S0.length + 1)), some (wantD tail), v5', v6', v7'], S') ∧ S'.take S0.length = S0 := by
      intro A2 S2 w' cur2 y5 y6 y7 h2 h3
      rcases h3 with ⟨h3, rfl, v2⟩ | ⟨d, h3, rfl, v2⟩
      · have hr : rest = [] := by
          rw [List.drop_eq_nil_of_le h3] at hdk
          exact List.map_eq_nil_iff.mp hdk.symm
        subst hr
        obtain ⟨e1, e2⟩ := List.append_eq_nil_iff.mp (show A2.map (·.2) ++ tail = [] from h2)
        cases List.map_eq_nil_iff.mp e1
        subst e2
        exact ⟨S2, y5, y6, y7, rfl, v2.pre⟩
      · cases rest with
        | nil =>
          have := List.drop_eq_nil_iff.mp (show C.drop (k + 1) = [] from hdk)
          rw [List.getElem?_eq_none this] at h3
          cases h3
        | cons i2 rest2 =>
          have e : d = i2.c := by
            have := congrArg (·[0]?) hdk
            simp only [List.getElem?_drop, List.map_cons, List.getElem?_cons_zero, Nat.add_zero] at this
            rw [h3] at this
            exact Option.some.inj this
          subst e
          exact all_turns hm hC3 hCl (i2 :: rest2) A2 tail (k + 1) S2 i2 y5 y6 y7 (fun i hi => hok i (List.mem_cons_of_mem _ hi)) hdk h2 rfl v2
    cases A with
    | nil =>
      refine ⟨S, v5, v6, v7, ?_, hv.pre⟩
      have : wantD tail = .tup ((firstQ i.c).map D.int) := by
        have e : tail = fl (i :: rest) := hA
        rw [e, fl, List.flatMap_cons, Inf.fl]
        cases i.two <;> rfl
      rw [this]
      rfl
    | cons a A =>
      obtain ⟨t, q, x⟩ := a
      have hs1 : ∀ (y : Int) (q0 wn : D) (y5 y6 y7 : Option D), setT (.t [5, 6]) (ansF to (t, q, y)) [a0, a1, some (.tup (C.map wyT)), some (.ref (S0.length + 1)), some wn, y5, y6, y7] = some [a0, a1, some (.tup (C.map wyT)), some (.ref (S0.length + 1)), some wn, some (row t q), some (.int y), y7] := fun y q0 wn y5 y6 y7 => by
        cases to <;> rfl
      cases hb : i.two with
      | false =>
        have e : (q, x) :: (A.map (·.2) ++ tail) = (firstQ i.c, (i.v : Int)) :: fl rest := by
          have : (q, x) :: (A.map (·.2) ++ tail) = fl (i :: rest) := hA
          rw [this, fl, List.flatMap_cons, Inf.fl, hb]
          rfl
        injection e with e1 e2
        injection e1 with e3 e4
        subst e3 e4
        have hnon : ones i.c = 0 ∨ ([] ++ [(i.v : Int)]).length = 2 ∨ (∃ v, ([] ++ [(i.v : Int)])[0]? = some v ∧ v ≤ 1) := by
          by_cases h0 : ones i.c = 0
          · exact .inl h0
          · refine .inr (.inr ⟨i.v, rfl, ?_⟩)
            unfold Inf.two at hb
            rw [decide_eq_true h0, Bool.true_and, decide_eq_false_iff_not] at hb
            omega
        obtain ⟨S2, w', et, post⟩ := turn (w := w) (n := n) (a0 := a0) (a1 := a1) (v7 := v7) (q := firstQ i.c) (t := t) (x := i.v) hv hCk hl (by omega) (fun _ => hle) (by simp) .non (.inl ⟨hnon, rfl⟩) hC3
        obtain ⟨S', b5, b6, b7, er, hp⟩ := behind A S2 w' ([] ++ [(i.v : Int)]) (some (row t (firstQ i.c))) (some (.int i.v)) (some (wyT i.c)) e2 (by
          rcases post with ⟨h, _⟩ | ⟨_, h1, h2, h3⟩ | ⟨_, d, h1, h2, h3⟩
          · exact absurd rfl h
          · exact .inl ⟨h1, h2, h3⟩
          · exact .inr ⟨d, h1, h2, h3⟩)
        refine ⟨S', b5, b6, b7, ?_, hp⟩
        rw [List.map_cons, forRun, hs1 _ .non]
        simp only [et]
        exact er
      | true =>
        have hb2 := hb
        unfold Inf.two at hb2
        rw [Bool.and_eq_true, decide_eq_true_eq, decide_eq_true_eq] at hb2
        have e : (q, x) :: (A.map (·.2) ++ tail) = (firstQ i.c, (i.v : Int)) :: (i.sec, (i.u : Int)) :: fl rest := by
          have : (q, x) :: (A.map (·.2) ++ tail) = fl (i :: rest) := hA
          rw [this, fl, List.flatMap_cons, Inf.fl, hb]
          rfl
        injection e with e1 e2
        injection e1 with e3 e4
        subst e3 e4
        have ho3 : ones i.c ≤ 3 := Nat.le_trans (ones_le i.c) hl
        have hnb : nb i.v ≤ 60 := nb_le (by omega) (Nat.le_trans (hle.resolve_left hb2.1) (mosts_le _ ho3))
        obtain ⟨S2, w', et, post⟩ := turn (w := w) (n := n) (a0 := a0) (a1 := a1) (v7 := v7) (q := firstQ i.c) (t := t) (x := i.v) hv hCk hl (by omega) (fun _ => hle) (by simp) (.tup (i.sec.map D.int)) (.inr ⟨i.v, rfl, hb2.2, hnb, hb2.1, rfl⟩) hC3
        have post' : w' = .tup (i.sec.map D.int) ∧ VS S0 S2 k [(i.v : Int)] := by
          rcases post with ⟨_, h1, h2⟩ | ⟨h, _⟩ | ⟨h, _⟩
          · exact ⟨h1, h2⟩
          · cases h
          · cases h
        obtain ⟨rfl, v2⟩ := post'
        cases A with
        | nil =>
          refine ⟨S2, some (row t (firstQ i.c)), some (.int i.v), some (wyT i.c), ?_, v2.pre⟩
          have : wantD tail = .tup (i.sec.map D.int) := by
            have e : tail = (i.sec, (i.u : Int)) :: fl rest := e2
            rw [e]
            rfl
          rw [List.map_cons, forRun, hs1 _ .non]
          simp only [et]
          rw [this]
          rfl
        | cons b A =>
          obtain ⟨t2, q2, x2⟩ := b
          have e5 : (q2, x2) :: (A.map (·.2) ++ tail) = (i.sec, (i.u : Int)) :: fl rest := e2
          injection e5 with e6 e7
          injection e6 with e8 e9
          subst e8 e9
          have hs2 : ∀ (wn : D) (y5 y6 y7 : Option D), setT (.t [5, 6]) (ansF to (t2, i.sec, (i.u : Int))) [a0, a1, some (.tup (C.map wyT)), some (.ref (S0.length + 1)), some wn, y5, y6, y7] = some [a0, a1, some (.tup (C.map wyT)), some (.ref (S0.length + 1)), some wn, some (row t2 i.sec), some (.int (i.u : Int)), y7] := fun wn y5 y6 y7 => by
            cases to <;> rfl
          obtain ⟨S3, w3, et3, post3⟩ := turn (w := w) (n := n) (a0 := a0) (a1 := a1) (v7 := some (wyT i.c)) (q := i.sec) (t := t2) (x := i.u) v2 hCk hl (by omega) (fun h => by cases h) (by simp) .non (.inl ⟨.inr (.inl rfl), rfl⟩) hC3
          obtain ⟨S', b5, b6, b7, er, hp⟩ := behind A S3 w3 ([(i.v : Int)] ++ [(i.u : Int)]) (some (row t2 i.sec)) (some (.int i.u)) (some (wyT i.c)) e7 (by
            rcases post3 with ⟨h, _⟩ | ⟨_, h1, h2, h3⟩ | ⟨_, d, h1, h2, h3⟩
            · exact absurd rfl h
            · exact .inl ⟨h1, h2, h3⟩
            · exact .inr ⟨d, h1, h2, h3⟩)
          refine ⟨S', b5, b6, b7, ?_, hp⟩
          rw [List.map_cons, forRun, hs1 _ .non]
          simp only [et]
          rw [List.map_cons, forRun, hs2]
          simp only [et3]
          exact er
/-- the next ask -/
theorem sorted_out {m : Nat} {to tx : Bool} {is : List Inf} {A : List (Bool × List Int × Int)} {tail : List (List Int × Int)} (hc : clo S) (hm : m ≤ 3) (hi : ∀ i ∈ is, InfOk m i) (hC : is.map Inf.c = chs m) (hA : A.map (·.2) ++ tail = fl is) :
    ∃ S', run T w (n + 6) 14 [.int m, if tx then .tup (A.map (ansF to)) else .lst (A.map (ansF to))] S = some (.tup [.ref (S.length + 1), wantD tail], S') ∧ S'.take S.length = S := by
  generalize hX : (if tx then D.tup (A.map (ansF to)) else D.lst (A.map (ansF to))) = X
  have g0 : items X = some (A.map (ansF to)) := by rw [← hX]; cases tx <;> rfl
  have hCl : (chs m).length ≤ 10 := by rw [chs_len]; exact Nat.le_trans (Nat.pow_le_pow_right (by decide) hm) (by decide)
  obtain ⟨i, hi0⟩ : ∃ i, is.head? = some i := by
    cases is with
    | nil =>
      have z := chs_len m
      rw [← hC] at z
      have := Nat.two_pow_pos m
      simp only [List.map_nil, List.length_nil] at z
      omega
    | cons i is => exact ⟨i, rfl⟩
  have hC0 : (chs m)[0]? = some i.c := by
    rw [← hC]
    cases is with
    | nil => cases hi0
    | cons j is => cases hi0; rfl
  have e1 := choices (w := w) (n := n) (S := S) hm
  have zer : small 0 = true := rfl
  have one : small 1 = true := rfl
  have s1 : ex (run T w (n + 5)) w (.par [2, 3] (.cons (.call 5 (.cons (.v 0) .nil)) (.cons (.new (.cons (.new .nil) .nil)) .nil))) [some (.int m), some X, none, none, none, none, none, none] S = some (.nx [some (.int m), some X, some (.tup ((chs m).map wyT)), some (.ref (S.length + 1)), none, none, none, none], S ++ [some ([] : List D), some [D.ref S.length]]) := by
    simp only [ex, ev, evs, List.getElem?_cons_zero, e1, List.length_nil, List.length_cons, Nat.zero_add, zer, one, if_true, mkList, Nat.reduceAdd]
    simp [List.zip, List.zipWith]
  have cS : clo (S ++ [some ([] : List D), some [D.ref S.length]]) := by
    have c1 : clo (S ++ [some ([] : List D)]) := clo_app hc rfl
    have c2 : clo ((S ++ [some ([] : List D)]) ++ [some [D.ref S.length]]) := clo_app c1 (by
      have hl : (S ++ [some ([] : List D)]).length = S.length + 1 := by rw [List.length_append]; rfl
      rw [hl]
      show (decide (S.length < S.length + 1 + 1) && true) = true
      rw [decide_eq_true (by omega)]
      rfl)
    rw [List.append_assoc] at c2
    exact c2
  have e2 := next_first (w := w) (n := n + 3) (S := S ++ [some ([] : List D), some [D.ref S.length]]) (c := i.c) cS (by rw [(hi i (List.mem_of_mem_head? (by rw [hi0]; rfl))).len]; exact hm)
  have s2 : ex (run T w (n + 5)) w (.asg (.n 4) (.call 12 (.cons (.ix (.v 2) (.c (.int 0))) (.cons (.lst .nil) .nil)))) [some (.int m), some X, some (.tup ((chs m).map wyT)), some (.ref (S.length + 1)), none, none, none, none] (S ++ [some ([] : List D), some [D.ref S.length]]) = some (.nx [some (.int m), some X, some (.tup ((chs m).map wyT)), some (.ref (S.length + 1)), some (.tup ((firstQ i.c).map D.int)), none, none, none], S ++ [some ([] : List D), some [D.ref S.length]]) := by
    have z6 : see (S ++ [some ([] : List D), some [D.ref S.length]]) (.tup ((chs m).map wyT)) = some (.tup ((chs m).map wyT)) := rfl
    have z2 : ixD (.tup ((chs m).map wyT)) (.int 0) = some (wyT i.c) := by
      have hl := (List.getElem?_eq_some_iff.mp hC0).1
      show L2.atI _ ((0 : Nat) : Int) = _
      rw [atI_nat (by simpa using hl), List.getElem?_map, hC0]
      rfl
    simp only [ex, ev, evs, List.getElem?_cons_succ, List.getElem?_cons_zero, z6, z2, List.length_nil, zer, if_true, e2, setT, List.set_cons_succ, List.set_cons_zero]
  have v0 : VS S (S ++ [some ([] : List D), some [D.ref S.length]]) 0 [] := by
    refine ⟨List.take_left, cS, [D.ref S.length], S.length, ?_, rfl, rfl, ?_, Nat.le_refl _, by omega⟩
    · rw [List.getElem?_append_right (by omega), show S.length + 1 - S.length = 1 by omega]
      rfl
    · rw [List.getElem?_append_right (Nat.le_refl _), Nat.sub_self]
      rfl
  obtain ⟨S', b5, b6, b7, e3, hp⟩ := all_turns (w := w) (n := n + 2) (a0 := some (.int m)) (a1 := some X) (to := to) hm (fun d hd => by rw [chs_in m d hd]; exact hm) hCl is A tail 0 _ i none none none hi (by rw [List.drop_zero, hC]) hA hi0 v0
  have s3 : ex (run T w (n + 5)) w (.for (.t [5, 6]) (.v 1) loT) [some (.int m), some X, some (.tup ((chs m).map wyT)), some (.ref (S.length + 1)), some (.tup ((firstQ i.c).map D.int)), none, none, none] (S ++ [some ([] : List D), some [D.ref S.length]]) = some (.nx [some (.int m), some X, some (.tup ((chs m).map wyT)), some (.ref (S.length + 1)), some (wantD tail), b5, b6, b7], S') := by
    rw [ex, ev]
    simp only [List.getElem?_cons_succ, List.getElem?_cons_zero, g0]
    exact e3
  have two : small 2 = true := rfl
  have s4 : ex (run T w (n + 5)) w (.ret (.tup (.cons (.v 3) (.cons (.v 4) .nil)))) [some (.int m), some X, some (.tup ((chs m).map wyT)), some (.ref (S.length + 1)), some (wantD tail), b5, b6, b7] S' = some (.rt (.tup [.ref (S.length + 1), wantD tail]), S') := by
    simp only [ex, ev, evs, List.getElem?_cons_succ, List.getElem?_cons_zero, List.length_nil, List.length_cons, Nat.zero_add, Nat.reduceAdd, two, if_true]
  refine ⟨S', ?_, hp⟩
  have body : exs (run T w (n + 5)) w b_sorted_out [some (.int m), some X, none, none, none, none, none, none] S = some (.rt (.tup [.ref (S.length + 1), wantD tail]), S') := by
    rw [sorted_body, exs, s1]
    simp only []
    rw [exs, s2]
    simp only []
    rw [exs, s3]
    simp only []
    rw [exs, s4]
  rw [run_rt t14 rfl body]
  rfl
theorem pure_want : ∀ l, D.pure (wantD l) = true
  | [] => rfl
  | p :: _ => by show D.pures (p.1.map D.int) = true; exact pures_ints _
theorem next_ask {m : Nat} {to tx : Bool} {is : List Inf} {A : List (Bool × List Int × Int)} {tail : List (List Int × Int)} (hc : clo S) (hm : m ≤ 3) (hi : ∀ i ∈ is, InfOk m i) (hC : is.map Inf.c = chs m) (hA : A.map (·.2) ++ tail = fl is) (hok : ∀ a ∈ A, AnsOk m a) (hl : A.length ≤ 1000) :
    run T w (n + 7) 16 [.int m, if tx then .tup (A.map (ansF to)) else .lst (A.map (ansF to))] S = some (wantD tail, S) := by
  obtain ⟨S', e2, hp⟩ := sorted_out (w := w) (n := n) (S := S) (to := to) (tx := tx) hc hm hi hC hA
  have e1 := need_answers (w := w) (n := n) (S := S) (to := to) (tx := tx) hok hm hl
  generalize (if tx then D.tup (A.map (ansF to)) else D.lst (A.map (ansF to))) = X at e1 e2 ⊢
  have z1 : see S' (.tup [.ref (S.length + 1), wantD tail]) = some (.tup [.ref (S.length + 1), wantD tail]) := rfl
  have z2 : ixD (.tup [.ref (S.length + 1), wantD tail]) (.int 1) = some (wantD tail) := rfl
  have body : exs (run T w (n + 6)) w b_next_ask [some (.int m), some X] S = some (.rt (wantD tail), S') := by
    simp only [b_next_ask, exs, ex, ev, evs, List.getElem?_cons_succ, List.getElem?_cons_zero, e1, e2, z1, z2]
  rw [run_rt t16 rfl body]
  unfold leave
  rw [pure_want, hp, hc]
  rfl
end Lk51

set_option Elab.async false
set_option linter.all false
set_option maxRecDepth 512
namespace Lk51
open PySem Iv
variable {w n : Nat} {S : Sto}
/-- bits of a number that is asked -/
def bq : Nat := 512
theorem bq1 : 1 ≤ bq := by decide
theorem bq2 : bq ≤ 399000 := by decide
theorem bq8 : bq * 8 ≤ 5000 := by decide
theorem pw_b {q p : Nat} (q1 : q ≤ 2 ^ bq) (p1 : p ≤ 8) : q ^ p ≤ 2 ^ (bq * 8) := Nat.le_trans (pow_le q1 p) (Nat.pow_le_pow_right (by decide) (Nat.mul_le_mul_left bq p1))
theorem bqp {p : Nat} (p1 : p ≤ 8) : bq * p ≤ 399000 := Nat.le_trans (Nat.mul_le_mul_left bq p1) (by decide)
theorem lp_ok {q p : Nat} (q1 : q ≤ 2 ^ bq) (p1 : p ≤ 8) : run T w (n + 1) 20 [.int q, .int p] S = some (.int (q ^ p : Nat), S) :=
  lpow_ok (a := bq) q1 bq1 (Nat.le_trans p1 (by decide)) (bqp p1) bq2
theorem lt_K {x B K : Nat} (h : x ≤ 2 ^ B) (hB : B < K) : x < 2 ^ K := Nat.lt_of_le_of_lt h (Nat.pow_lt_pow_right (by decide) hB)
theorem mul_ok {x acc B : Nat} (hB : acc ≤ 2 ^ B) (b1 : x ≤ 2 ^ (bq * 8)) (hz : B < 100000) : opD .Mult (.int (acc : Int)) (.int (x : Int)) = some (.int ((acc * x : Nat) : Int)) :=
  op_mulW (K := 100000) (lt_K hB hz) (lt_K b1 (Nat.lt_of_le_of_lt bq8 (by decide))) (by decide)
theorem wo_bound {q p acc B : Nat} (q1 : q ≤ 2 ^ bq) (p1 : p ≤ 8) (hB : acc ≤ 2 ^ B) : acc * q ^ p ≤ 2 ^ (B + bq * 8) := by
  rw [Nat.pow_add]
  exact Nat.mul_le_mul hB (pw_b q1 p1)
theorem forRun_nx {t : Tg} {body : Iv.Env → Sto → Option (Out × Sto)} {d : D} {ds : List D} {ρ ρ1 ρ2 : Iv.Env} {S S1 : Sto} (h1 : setT t d ρ = some ρ1) (h2 : body ρ1 S = some (.nx ρ2, S1)) : forRun t body (d :: ds) ρ S = forRun t body ds ρ2 S1 := by
  simp only [forRun, h1, h2]
def woI : Ss := (.cons (.asg (.n 5) (.op .Mult (.v 5) (.call 20 (.cons (.v 6) (.cons (.v 7) .nil))))) .nil)
theorem wo_step {F : CF} {v0 v1 v2 v3 v4 : Option D} {q p acc z : Nat} (e1 : F 20 [.int q, .int p] S = some (.int (z : Nat), S)) (e2 : opD .Mult (.int (acc : Int)) (.int (z : Int)) = some (.int ((acc * z : Nat) : Int))) :
    exs F w woI [v0, v1, v2, v3, v4, some (.int acc), some (.int q), some (.int p)] S = some (.nx [v0, v1, v2, v3, v4, some (.int (acc * z : Nat)), some (.int q), some (.int p)], S) := by
  simp only [woI, exs, ex, ev, evs, List.getElem?_cons_succ, List.getElem?_cons_zero, e1, see_int, e2, setT, List.set_cons_succ, List.set_cons_zero]
theorem wo_turn {v0 v1 v2 v3 v4 : Option D} {q p acc B : Nat} (q1 : q ≤ 2 ^ bq) (p1 : p ≤ 8) (hB : acc ≤ 2 ^ B) (hz : B < 100000) :
    exs (run T w (n + 1)) w woI [v0, v1, v2, v3, v4, some (.int acc), some (.int q), some (.int p)] S = some (.nx [v0, v1, v2, v3, v4, some (.int (acc * q ^ p : Nat)), some (.int q), some (.int p)], S) :=
  wo_step (lp_ok q1 p1) (mul_ok hB (pw_b q1 p1) hz)
end Lk51

set_option Elab.async false
set_option linter.all false
set_option maxRecDepth 100000
set_option maxHeartbeats 4000000
namespace Lk51
open PySem Iv
variable {w n : Nat} {S : Sto}
def lch : Nat → List (List Bool)
  | 0 => [[]]
  | m + 1 => (lch m).map (· ++ [false]) ++ (lch m).map (· ++ [true])
theorem lch_len : ∀ m, (lch m).length = 2 ^ m
  | 0 => rfl
  | m + 1 => by rw [lch, List.length_append, List.length_map, List.length_map, lch_len m, Nat.pow_succ]; omega
theorem lch_in : ∀ m, ∀ p ∈ lch m, p.length = m
  | 0, p, h => by cases h with | head => rfl | tail _ h => cases h
  | m + 1, p, h => by
    rcases List.mem_append.mp h with h | h <;>
    · obtain ⟨q, hq, rfl⟩ := List.mem_map.mp h
      rw [List.length_append, lch_in m q hq]
      rfl
def lcE (b : Bool) : E := .comp false (.n 3) (.v 1) (.op .Add (.v 3) (.tup (.cons (.c (.int (bit b))) .nil)))
theorem lc_half {F : CF} {v0 v2 v3 : Option D} (b : Bool) (l : List (List Bool)) (hp : ∀ p ∈ l, p.length ≤ 100) (hl : l.length ≤ 400) : ev F (lcE b) [v0, some (.lst (l.map wyT)), v2, v3] S = some (.lst ((l.map (· ++ [b])).map wyT), S) := by
  have one : small 1 = true := rfl
  have e := ev_comp (F := F) (S := S) (S1 := S) (t := .n 3) (it := .v 1) (elt := .op .Add (.v 3) (.tup (.cons (.c (.int (bit b))) .nil))) (ρ := [v0, some (.lst (l.map wyT)), v2, v3]) (x := .lst (l.map wyT)) (xs := l.map wyT) (g := fun d => match d with | .tup ds => .tup (ds ++ [.int (bit b)]) | _ => .non) (by simp [ev]) rfl (fun d hd => by
    obtain ⟨p, hpl, rfl⟩ := List.mem_map.mp hd
    have sm : small (p.length + 1) = true := decide_eq_true (by have := hp p hpl; omega)
    refine ⟨_, rfl, ?_⟩
    simp only [ev, evs, wipeT, List.set_cons_succ, List.set_cons_zero, List.getElem?_cons_succ, List.getElem?_cons_zero, List.length_nil, List.length_cons, Nat.zero_add, one, if_true, wyT, see, opD, List.length_map, sm]) (by rw [List.length_map]; omega)
  rw [lcE, e, List.map_map, List.map_map]
  congr 4
  funext p
  simp [wyT]
def lcB : Ss := (.cons (.asg (.n 1) (.op .Add (lcE false) (lcE true))) .nil)
theorem lc_loop {F : CF} {v0 v3 : Option D} : ∀ (ds : List D) (m : Nat) (v2 : Option D), m + ds.length ≤ 7 → ∃ v2', forRun (.n 2) (fun ρ S => exs F w lcB ρ S) ds [v0, some (.lst ((lch m).map wyT)), v2, v3] S = some (.nx [v0, some (.lst ((lch (m + ds.length)).map wyT)), v2', v3], S)
  | [], m, v2, _ => ⟨v2, rfl⟩
  | d :: ds, m, v2, h => by
    rw [List.length_cons] at h
    obtain ⟨v2', ih⟩ := lc_loop (F := F) (v0 := v0) (v3 := v3) ds (m + 1) (some d) (by omega)
    refine ⟨v2', ?_⟩
    have hc : (lch m).length ≤ 128 := by rw [lch_len]; exact Nat.le_trans (Nat.pow_le_pow_right (by decide) (show m ≤ 7 by omega)) (by decide)
    have e1 := lc_half (F := F) (S := S) (v0 := v0) (v2 := some d) (v3 := v3) false (lch m) (fun p hp => by rw [lch_in m p hp]; omega) (by omega)
    have e2 := lc_half (F := F) (S := S) (v0 := v0) (v2 := some d) (v3 := v3) true (lch m) (fun p hp => by rw [lch_in m p hp]; omega) (by omega)
    have sm : small (((lch m).map (· ++ [false])).map wyT ++ []).length = true := decide_eq_true (by simp; omega)
    have z : opD .Add (.lst (((lch m).map (· ++ [false])).map wyT)) (.lst (((lch m).map (· ++ [true])).map wyT)) = some (.lst ((lch (m + 1)).map wyT)) := by
      have g : small ((((lch m).map (· ++ [false])).map wyT).length + (((lch m).map (· ++ [true])).map wyT).length) = true := decide_eq_true (by simp only [List.length_map]; omega)
      show (if _ then _ else _) = _
      rw [if_pos g, lch, List.map_append]
    have t1 : ex F w (.asg (.n 1) (.op .Add (lcE false) (lcE true))) [v0, some (.lst ((lch m).map wyT)), some d, v3] S = some (.nx [v0, some (.lst ((lch (m + 1)).map wyT)), some d, v3], S) := by
      rw [ex, ev, e1]
      simp only []
      rw [e2]
      simp only [see, z, setT, List.set_cons_succ, List.set_cons_zero]
    rw [forRun]
    simp only [setT, List.set_cons_succ, List.set_cons_zero, lcB]
    rw [exs, t1]
    simp only [exs]
    rw [show m + (d :: ds).length = m + 1 + ds.length by rw [List.length_cons]; omega]
    exact ih
theorem pures_wys : ∀ l : List (List Bool), D.pures (l.map wyT) = true
  | [] => rfl
  | p :: l => by
    show (D.pures (p.map fun c => D.int (bit c)) && D.pures (l.map wyT)) = true
    rw [map_bit, pures_ints, pures_wys l]
    rfl
theorem py_wy (p : List Bool) : (wyT p).py = .tuple ((p.map bit).map PyData.int) := by
  simp only [wyT, D.py, map_bit, pys_ints]
theorem alike_wy (p q : List Bool) : PySem.W.alike (wyT p).py (wyT q).py = true := by
  rw [py_wy, py_wy, PySem.W.alike]
  exact PySem.W.alike_ints _ _
def ltB : List Bool → List Bool → Bool
  | _, [] => false
  | [], _ :: _ => true
  | c :: p, d :: q => if c = d then ltB p q else !c
theorem ltB_asym : ∀ p q : List Bool, ltB p q = true → ltB q p = false
  | p, [], h => by cases p <;> cases h
  | [], _ :: _, _ => rfl
  | c :: p, d :: q, h => by
    unfold ltB at h ⊢
    by_cases e : c = d
    · subst e
      rw [if_pos rfl] at h ⊢
      exact ltB_asym p q h
    · rw [if_neg e] at h
      rw [if_neg (Ne.symm e)]
      cases c <;> cases d <;> simp_all
theorem ltB_total : ∀ p q : List Bool, ltB p q = false → ltB q p = false → p = q
  | [], [], _, _ => rfl
  | [], _ :: _, h, _ => by cases h
  | _ :: _, [], _, h => by cases h
  | c :: p, d :: q, h, h' => by
    unfold ltB at h h'
    by_cases e : c = d
    · subst e
      rw [if_pos rfl] at h h'
      rw [ltB_total p q h h']
    · rw [if_neg e] at h
      rw [if_neg (Ne.symm e)] at h'
      cases c <;> cases d <;> simp_all
theorem lt_row : ∀ p q : List Bool, PyProof.Rows.lexLt PyProof.Rows.itemOrd (PySem.W.keyToksAll ((p.map bit).map PyData.int)) (PySem.W.keyToksAll ((q.map bit).map PyData.int)) = ltB p q
  | [], [] => by simp only [List.map_nil]; exact PyProof.Rows.lex_irrefl _
  | [], c :: q => by
    simp only [List.map_nil, List.map_cons, PySem.W.keyToksAll]
    rw [PySem.W.lex_atom (by simp)]
    rfl
  | c :: p, [] => by
    simp only [List.map_nil, List.map_cons, PySem.W.keyToksAll]
    rw [PySem.W.lex_atom (by simp)]
    rfl
  | c :: p, d :: q => by
    have ih := lt_row p q
    simp only [List.map_cons]
    rw [PySem.W.dataLt_cons (by simp [PySem.W.alike]), ih, PySem.W.dataLt_int]
    cases c <;> cases d <;> simp [bit, ltB, PyData.eqv]
theorem lt_wy (p q : List Bool) : PySem.W.dataLt (wyT p).py (wyT q).py = ltB p q := by
  rw [py_wy, py_wy, PySem.W.dataLt_tuple]
  exact lt_row p q
theorem sort_wys {l m : List (List Bool)} (hp : l.Perm m) (h0 : headNil (l.map wyT) = true ∨ (l.map wyT).all D.isTup1 = true) (hl : l.length ≤ 1000)
    (ha : m.Pairwise fun p q => ltB p q = true) : biD .sorted [.lst (l.map wyT)] = some (.lst (m.map wyT)) := by
  have e : sortOk (l.map wyT) = true := by
    have a1 : small ((l.map wyT).length) = true := decide_eq_true (by rw [List.length_map]; omega)
    have a2 : allAlike (l.map wyT) = true := by
      refine List.all_eq_true.mpr fun a ha => List.all_eq_true.mpr fun b hb => ?_
      obtain ⟨p, _, rfl⟩ := List.mem_map.mp ha
      obtain ⟨q, _, rfl⟩ := List.mem_map.mp hb
      exact alike_wy p q
    have a3 : ((l.map wyT).all fun a => decide (a.py.depth ≤ 100)) = true := by
      refine List.all_eq_true.mpr fun a ha => ?_
      obtain ⟨p, _, rfl⟩ := List.mem_map.mp ha
      rw [py_wy]
      simp only [PyData.depth, depth_ints]
      rfl
    have a4 : (l.map wyT).all D.isTup = true := by
      refine List.all_eq_true.mpr fun a ha => ?_
      obtain ⟨p, _, rfl⟩ := List.mem_map.mp ha
      rfl
    unfold sortOk
    rw [a1, pures_wys, a2, a3, a4]
    rcases h0 with h0 | h0
    · rw [h0]; rfl
    · rw [h0]; simp
  show (if _ then _ else _) = _
  rw [if_pos e]
  refine congrArg (fun x => some (D.lst x)) ?_
  unfold sortD
  refine List.Perm.eq_of_pairwise (le := fun a b => (!PySem.W.dataLt b.py a.py) = true) (fun a b ha hb h1 h2 => ?_) ?_ ?_ ?_
  · obtain ⟨p, hp1, rfl⟩ := List.mem_map.mp ((List.mergeSort_perm _ _).mem_iff.mp ha)
    obtain ⟨q, hq1, rfl⟩ := List.mem_map.mp hb
    rw [lt_wy, Bool.not_eq_true'] at h1 h2
    rw [ltB_total p q h2 h1]
  · have T := PySem.W.sortLe_total (PyProof.Rows.listOrd PyProof.Rows.itemOrd) false fun b : D => PySem.W.keyToks b.py
    exact List.pairwise_mergeSort (le := fun a b : D => !PySem.W.dataLt b.py a.py) (fun a b c h1 h2 => T.trans a b c h1 h2) (fun a b => (Bool.or_eq_true _ _).mpr (T.total a b)) _
  · rw [List.pairwise_map]
    refine ha.imp fun {p q} h => ?_
    rw [lt_wy, ltB_asym p q h]
    rfl
  · exact (List.mergeSort_perm _ _).trans (hp.map wyT)
theorem lchoices {m : Nat} (hm : m ≤ 3) : run T w (n + 1) 21 [.int m] S = some (.lst ((chs m).map wyT), S) := by
  have hs : biD .sorted [.lst ((lch m).map wyT)] = some (.lst ((chs m).map wyT)) := by
    have hl : (lch m).length ≤ 1000 := by rw [lch_len]; exact Nat.le_trans (Nat.pow_le_pow_right (by decide) hm) (by decide)
    rcases (show m = 0 ∨ m = 1 ∨ m = 2 ∨ m = 3 by omega) with rfl | rfl | rfl | rfl
    · exact sort_wys (by decide) (.inl rfl) hl (by decide)
    · exact sort_wys (by decide) (.inr rfl) hl (by decide)
    · exact sort_wys (by decide) (.inr rfl) hl (by decide)
    · exact sort_wys (by decide) (.inr rfl) hl (by decide)
  refine run_rts t21 rfl rfl ?_
  obtain ⟨y, e⟩ := lc_loop (w := w) (S := S) (F := run T w n) (v0 := some (.int m)) (v3 := none) ((List.range m).map fun (k : Nat) => D.int (0 + k)) 0 none (by simp; omega)
  have hl : 0 + ((List.range m).map fun (k : Nat) => D.int (0 + k)).length = m := by simp
  rw [hl] at e
  have one : small 1 = true := rfl
  have zer : small 0 = true := rfl
  have s2 : ex (run T w n) w (.asg (.n 1) (.lst (.cons (.tup .nil) .nil))) [some (.int m), none, none, none] S = some (.nx [some (.int m), some (.lst ((lch 0).map wyT)), none, none], S) := by
    simp only [ex, evs, ev, List.length_nil, List.length_cons, Nat.zero_add, one, zer, if_true, setT, List.set_cons_succ, List.set_cons_zero]
    rfl
  have s3 : ex (run T w n) w (.for (.n 2) (.rng (.c (.int 0)) (.v 0)) lcB) [some (.int m), some (.lst ((lch 0).map wyT)), none, none] S = some (.nx [some (.int m), some (.lst ((lch m).map wyT)), y, none], S) := by
    rw [ex, rng_ok (m := m) rfl (by omega)]
    simp only [items]
    exact e
  have s4 : ex (run T w n) w (.ret (.bi .sorted (.cons (.v 1) .nil))) [some (.int m), some (.lst ((lch m).map wyT)), y, none] S = some (.rt (.lst ((chs m).map wyT)), S) := by
    simp only [exs, ex, ev, evs, List.getElem?_cons_succ, List.getElem?_cons_zero, seeAll, see, hs]
  have e3 : b__law_choices = .cons (.asg (.n 1) (.lst (.cons (.tup .nil) .nil))) (.cons (.for (.n 2) (.rng (.c (.int 0)) (.v 0)) lcB) (.cons (.ret (.bi .sorted (.cons (.v 1) .nil))) .nil)) := rfl
  show exs _ _ b__law_choices [some (.int m), none, none, none] S = _
  rw [e3, exs, s2]
  simp only []
  rw [exs, s3]
  simp only []
  rw [exs, s4]
def termD (p : List Nat × Nat) : D := .tup [.lst (p.1.map fun (k : Nat) => D.int k), .int p.2]
def partF : Nat → List Nat → List Nat → Nat
  | acc, q :: qs, p :: ps => partF (acc * q ^ p) qs ps
  | acc, _, _ => acc
def worthF : Nat → List (List Nat × Nat) → List Nat → Nat
  | tot, [], _ => tot
  | tot, t :: ts, qs => worthF (tot + partF t.2 qs t.1) ts qs
def natsT (qs : List Nat) : D := .tup (qs.map fun (k : Nat) => D.int k)
theorem h8 {B m : Nat} (hz : B + bq * 8 * (m + 1) ≤ 90000) : B + bq * 8 + bq * 8 * m ≤ 90000 := by
  rw [Nat.mul_succ] at hz
  generalize bq * 8 * m = x at hz ⊢
  generalize bq * 8 = y at hz ⊢
  omega
theorem h9 {B m : Nat} (hz : B + bq * 8 * (m + 1) ≤ 90000) : B < 100000 := by
  generalize bq * 8 * (m + 1) = x at hz
  omega
theorem h10 {k : Nat} (hk : k ≤ 3) : 30 + bq * 8 * k ≤ 90000 := Nat.le_trans (Nat.add_le_add_left (Nat.mul_le_mul_left (bq * 8) hk) 30) (by decide)
theorem wo_inner {v0 v1 v2 v3 v4 : Option D} (qs : List Nat) : ∀ (ps : List Nat) (acc B : Nat) (v6 v7 : Option D), qs.length = ps.length → (∀ q ∈ qs, q ≤ 2 ^ bq) → (∀ p ∈ ps, p ≤ 8) → acc ≤ 2 ^ B → B + bq * 8 * qs.length ≤ 90000 →
    ∃ v6' v7', forRun (.t [6, 7]) (fun ρ S => exs (run T w (n + 1)) w woI ρ S) (((qs.map fun (k : Nat) => D.int k).zip (ps.map fun (k : Nat) => D.int k)).map fun p => .tup [p.1, p.2]) [v0, v1, v2, v3, v4, some (.int acc), v6, v7] S = some (.nx [v0, v1, v2, v3, v4, some (.int (partF acc qs ps : Nat)), v6', v7'], S) := by
  induction qs with
  | nil =>
    intro ps acc B v6 v7 hl _ _ _ _
    cases ps with
    | nil => exact ⟨v6, v7, rfl⟩
    | cons _ _ => cases hl
  | cons q qs IH =>
    intro ps acc B v6 v7 hl hq hp hB hz
    cases ps with
    | nil => cases hl
    | cons p ps =>
      simp only [List.length_cons] at hl hz
      have q1 := hq q List.mem_cons_self
      have p1 := hp p List.mem_cons_self
      obtain ⟨y6, y7, ih⟩ := IH ps (acc * q ^ p) (B + bq * 8) (some (.int q)) (some (.int p)) (Nat.succ.inj hl) (fun x hx => hq x (List.mem_cons_of_mem _ hx)) (fun x hx => hp x (List.mem_cons_of_mem _ hx)) (wo_bound q1 p1 hB) (h8 hz)
      refine ⟨y6, y7, ?_⟩
      have t1 := wo_turn (w := w) (n := n) (S := S) (v0 := v0) (v1 := v1) (v2 := v2) (v3 := v3) (v4 := v4) q1 p1 hB (h9 hz)
      have t2 : setT (.t [6, 7]) (.tup [D.int q, D.int p]) [v0, v1, v2, v3, v4, some (.int acc), v6, v7] = some [v0, v1, v2, v3, v4, some (.int acc), some (.int q), some (.int p)] := rfl
      have t3 : partF acc (q :: qs) (p :: ps) = partF (acc * q ^ p) qs ps := by rw [partF]
      rw [List.map_cons, List.map_cons, List.zip_cons_cons, List.map_cons, t3]
      exact (forRun_nx t2 t1).trans ih
structure TermOk (k : Nat) (t : List Nat × Nat) : Prop where
  len : t.1.length = k
  le : ∀ p ∈ t.1, p ≤ 8
  sh : t.2 ≤ 2 ^ 30
def woO : Ss := (.cons (.asg (.n 5) (.v 4)) (.cons (.for (.t [6, 7]) (.zipT (.v 1) (.v 3)) woI) (.cons (.asg (.n 2) (.op .Add (.v 2) (.v 5))) .nil)))
theorem wo_outer {v0 : Option D} {qs : List Nat} (hk : qs.length ≤ 3) (hq : ∀ q ∈ qs, q ≤ 2 ^ bq) : ∀ (ts : List (List Nat × Nat)) (tot : Nat) (v3 v4 v5 v6 v7 : Option D), (∀ t ∈ ts, TermOk qs.length t) →
    ∃ v3' v4' v5' v6' v7', forRun (.t [3, 4]) (fun ρ S => exs (run T w (n + 1)) w woO ρ S) (ts.map termD) [v0, some (natsT qs), some (.int tot), v3, v4, v5, v6, v7] S = some (.nx [v0, some (natsT qs), some (.int (worthF tot ts qs : Nat)), v3', v4', v5', v6', v7'], S)
  | [], tot, v3, v4, v5, v6, v7, _ => ⟨v3, v4, v5, v6, v7, rfl⟩
  | t :: ts, tot, v3, v4, v5, v6, v7, h => by
    obtain ⟨h1, h2, h3⟩ := h t List.mem_cons_self
    obtain ⟨ps, s⟩ := t
    simp only at h1 h2 h3
    obtain ⟨y6, y7, e1⟩ := wo_inner (w := w) (n := n) (S := S) (v0 := v0) (v1 := some (natsT qs)) (v2 := some (.int tot)) (v3 := some (.lst (ps.map fun (k : Nat) => D.int k))) (v4 := some (.int s)) qs ps s 30 v6 v7 h1.symm hq h2 h3 (h10 hk)
    obtain ⟨z3, z4, z5, z6, z7, ih⟩ := wo_outer (v0 := v0) hk hq ts (tot + partF s qs ps) (some (.lst (ps.map fun (k : Nat) => D.int k))) (some (.int s)) (some (.int (partF s qs ps : Nat))) y6 y7 fun t ht => h t (List.mem_cons_of_mem _ ht)
    refine ⟨z3, z4, z5, z6, z7, ?_⟩
    have t1 : setT (.t [3, 4]) (termD (ps, s)) [v0, some (natsT qs), some (.int tot), v3, v4, v5, v6, v7] = some [v0, some (natsT qs), some (.int tot), some (.lst (ps.map fun (k : Nat) => D.int k)), some (.int s), v5, v6, v7] := rfl
    have t2 : ex (run T w (n + 1)) w (.for (.t [6, 7]) (.zipT (.v 1) (.v 3)) woI) [v0, some (natsT qs), some (.int tot), some (.lst (ps.map fun (k : Nat) => D.int k)), some (.int s), some (.int s), v6, v7] S = some (.nx [v0, some (natsT qs), some (.int tot), some (.lst (ps.map fun (k : Nat) => D.int k)), some (.int s), some (.int (partF s qs ps : Nat)), y6, y7], S) := by
      have g : (qs.map fun (k : Nat) => D.int k).length = (ps.map fun (k : Nat) => D.int k).length := by rw [List.length_map, List.length_map, h1]
      simp only [ex, ev, List.getElem?_cons_succ, List.getElem?_cons_zero, natsT]
      rw [if_pos g]
      simp only [items]
      exact e1
    have t3 : ((tot : Int) + (partF s qs ps : Nat)) = ((tot + partF s qs ps : Nat) : Int) := (Int.natCast_add _ _).symm
    have t4 : exs (run T w (n + 1)) w woO [v0, some (natsT qs), some (.int tot), some (.lst (ps.map fun (k : Nat) => D.int k)), some (.int s), v5, v6, v7] S = some (.nx [v0, some (natsT qs), some (.int (tot + partF s qs ps : Nat)), some (.lst (ps.map fun (k : Nat) => D.int k)), some (.int s), some (.int (partF s qs ps : Nat)), y6, y7], S) := by
      rw [woO, exs, ex]
      simp only [ev, List.getElem?_cons_succ, List.getElem?_cons_zero, setT, List.set_cons_succ, List.set_cons_zero]
      rw [exs, t2]
      simp only [exs, ex, ev, List.getElem?_cons_succ, List.getElem?_cons_zero, see_int, op_add, t3, setT, List.set_cons_succ, List.set_cons_zero]
    rw [List.map_cons]
    exact (forRun_nx t1 t4).trans ih
theorem lworth {ts : List (List Nat × Nat)} {qs : List Nat} (hk : qs.length ≤ 3) (hq : ∀ q ∈ qs, q ≤ 2 ^ bq) (h : ∀ t ∈ ts, TermOk qs.length t) : run T w (n + 2) 23 [.lst (ts.map termD), natsT qs] S = some (.int (worthF 0 ts qs : Nat), S) := by
  obtain ⟨z3, z4, z5, z6, z7, e⟩ := wo_outer (w := w) (n := n) (S := S) (v0 := some (.lst (ts.map termD))) hk hq ts 0 none none none none none h
  refine run_rts t23 rfl rfl ?_
  have s1 : ex (run T w (n + 1)) w (.asg (.n 2) (.c (.int 0))) [some (.lst (ts.map termD)), some (natsT qs), none, none, none, none, none, none] S = some (.nx [some (.lst (ts.map termD)), some (natsT qs), some (.int (0 : Nat)), none, none, none, none, none], S) := by
    simp only [ex, ev, setT, List.set_cons_succ, List.set_cons_zero]
    rfl
  have s2 : ex (run T w (n + 1)) w (.for (.t [3, 4]) (.v 0) woO) [some (.lst (ts.map termD)), some (natsT qs), some (.int (0 : Nat)), none, none, none, none, none] S = some (.nx [some (.lst (ts.map termD)), some (natsT qs), some (.int (worthF 0 ts qs : Nat)), z3, z4, z5, z6, z7], S) := by
    rw [ex, ev]
    simp only [List.getElem?_cons_zero, items]
    exact e
  have e3 : b__law_worth = .cons (.asg (.n 2) (.c (.int 0))) (.cons (.for (.t [3, 4]) (.v 0) woO) (.cons (.ret (.v 2)) .nil)) := rfl
  show exs _ _ b__law_worth [some (.lst (ts.map termD)), some (natsT qs), none, none, none, none, none, none] S = _
  rw [e3, exs, s1]
  simp only []
  rw [exs, s2]
  simp only [exs, ex, ev, List.getElem?_cons_succ, List.getElem?_cons_zero]
end Lk51

set_option Elab.async false
set_option linter.all false
set_option maxRecDepth 512
set_option maxHeartbeats 4000000
namespace Lk51
open PySem Iv
variable {w n : Nat} {S : Sto}
def haC : E := .cmp .LtE (.call 20 (.cons (.c (.int 2)) (.cons (.op .Add (.v 2) (.c (.int 1))) .nil))) (.v 1)
def haB : Ss := (.cons (.asg (.n 2) (.op .Add (.v 2) (.c (.int 1)))) .nil)
theorem ha_test0 {F : CF} {v0 v3 v4 v5 : Option D} {v g q : Nat} (e1 : F 20 [.int 2, .int ((g + 1 : Nat) : Int)] S = some (.int (q : Nat), S)) : ev F haC [v0, some (.int v), some (.int g), v3, v4, v5] S = some (.bl (decide (q ≤ v)), S) := by
  have z1 : ((g : Int) + 1) = ((g + 1 : Nat) : Int) := (Int.natCast_add g 1).symm
  have z3 : decide ((q : Int) ≤ (v : Int)) = decide (q ≤ v) := by rw [decide_eq_decide]; exact Int.ofNat_le
  simp only [haC, ev, evs, List.getElem?_cons_succ, List.getElem?_cons_zero, see_int, op_add, z1, e1, cmpD, z3]
theorem two_pow {t : Nat} (ht : t ≤ 1000) : run T w (n + 1) 20 [.int 2, .int t] S = some (.int (2 ^ t : Nat), S) :=
  lpow_ok (x := 2) (a := 1) (by decide) (by decide) (by omega) (by omega) (by decide)
theorem ha_test {v0 v3 v4 v5 : Option D} {v g : Nat} (hg : g ≤ 70) : ev (run T w (n + 1)) haC [v0, some (.int v), some (.int g), v3, v4, v5] S = some (.bl (decide (2 ^ (g + 1) ≤ v)), S) :=
  ha_test0 (two_pow (by omega))
theorem ha_step {F : CF} {v0 v1 v3 v4 v5 : Option D} {g : Nat} : exs F w haB [v0, v1, some (.int g), v3, v4, v5] S = some (.nx [v0, v1, some (.int (g + 1 : Nat)), v3, v4, v5], S) := by
  have z1 : ((g : Int) + 1) = ((g + 1 : Nat) : Int) := (Int.natCast_add g 1).symm
  simp only [haB, exs, ex, ev, List.getElem?_cons_succ, List.getElem?_cons_zero, see_int, op_add, z1, setT, List.set_cons_succ, List.set_cons_zero]
theorem wh_stop {test : Iv.Env → Sto → Option (D × Sto)} {body : Iv.Env → Sto → Option (Out × Sto)} {f : Nat} {ρ : Iv.Env} {S S1 : Sto} (h : test ρ S = some (.bl false, S1)) : whRun test body (f + 1) ρ S = some (.nx ρ, S1) := by
  simp only [whRun, h]
theorem wh_go {test : Iv.Env → Sto → Option (D × Sto)} {body : Iv.Env → Sto → Option (Out × Sto)} {f : Nat} {ρ ρ2 : Iv.Env} {S S1 S2 : Sto} (h : test ρ S = some (.bl true, S1)) (h2 : body ρ S1 = some (.nx ρ2, S2)) : whRun test body (f + 1) ρ S = whRun test body f ρ2 S2 := by
  simp only [whRun, h, h2]
theorem ha_loop {v0 v3 v4 v5 : Option D} {v : Nat} (hv : 1 ≤ v) (h60 : v.log2 ≤ 60) : ∀ (k f g : Nat), g + k = v.log2 → k < f → whRun (fun ρ S => ev (run T w (n + 1)) haC ρ S) (fun ρ S => exs (run T w (n + 1)) w haB ρ S) f [v0, some (.int v), some (.int g), v3, v4, v5] S = some (.nx [v0, some (.int v), some (.int (v.log2 : Nat)), v3, v4, v5], S)
  | 0, f + 1, g, hg, _ => by
    have hg' : g = v.log2 := hg
    subst hg'
    have e := ha_test (w := w) (n := n) (S := S) (v0 := v0) (v3 := v3) (v4 := v4) (v5 := v5) (v := v) (g := v.log2) (by omega)
    rw [decide_eq_false (Nat.not_le.mpr Nat.lt_log2_self)] at e
    exact wh_stop e
  | k + 1, f + 1, g, hg, hf => by
    have e := ha_test (w := w) (n := n) (S := S) (v0 := v0) (v3 := v3) (v4 := v4) (v5 := v5) (v := v) (g := g) (by omega)
    rw [decide_eq_true ((Nat.le_log2 (by omega)).mp (by omega))] at e
    have e2 := ha_step (F := run T w (n + 1)) (w := w) (S := S) (v0 := v0) (v1 := some (.int v)) (v3 := v3) (v4 := v4) (v5 := v5) (g := g)
    exact (wh_go e e2).trans (ha_loop hv h60 k f (g + 1) (by omega) (by omega))
  | 0, 0, _, _, h => absurd h (Nat.lt_irrefl _)
  | k + 1, 0, _, _, h => absurd h (Nat.not_lt_zero _)
def lsT : Ss := (.cons (.ex (.meth .append (.v 3) (.cons (.ite (.cmp .Eq (.v 5) (.c (.int 1))) (.call 20 (.cons (.op .Add (.v 1) (.c (.int 1))) (.cons (.v 4) .nil))) (.c (.int 0))) .nil))) (.cons (.ifs (.cmp .Eq (.v 5) (.c (.int 1))) (.cons (.asg (.n 4) (.op .Mult (.v 4) (.op .Add (.v 2) (.c (.int 1))))) .nil) .nil) .nil))
theorem ls_false {F : CF} {v0 v1 v2 v4 : Option D} {fs : List Int} (hl : fs.length < 1000) : exs F w lsT [v0, v1, v2, some (.ref S.length), v4, some (.int (bit false))] (S ++ [some (fs.map D.int)]) = some (.nx [v0, v1, v2, some (.ref S.length), v4, some (.int (bit false))], S ++ [some ((fs ++ [0]).map D.int)]) := by
  have sm : small (fs.length + 1) = true := decide_eq_true (by omega)
  have z : cmpD .Eq (.int 0) (.int 1) = some false := rfl
  simp only [lsT, exs, ex, ev, evs, bit, Bool.false_eq_true, if_false, List.getElem?_cons_succ, List.getElem?_cons_zero, see_int, see_end, get_end, z, meD, List.length_map, sm, if_true, set_end, Option.isSome, List.map_append, List.map_cons, List.map_nil]
theorem ls_true {F : CF} {v0 : Option D} {v t b y : Nat} {fs : List Int} (hl : fs.length < 1000) (e1 : F 20 [.int ((v + 1 : Nat) : Int), .int t] (S ++ [some (fs.map D.int)]) = some (.int (y : Nat), S ++ [some (fs.map D.int)])) (e2 : opD .Mult (.int (t : Int)) (.int ((b + 1 : Nat) : Int)) = some (.int ((t * (b + 1) : Nat) : Int))) :
    exs F w lsT [v0, some (.int v), some (.int b), some (.ref S.length), some (.int t), some (.int (bit true))] (S ++ [some (fs.map D.int)]) = some (.nx [v0, some (.int v), some (.int b), some (.ref S.length), some (.int (t * (b + 1) : Nat)), some (.int (bit true))], S ++ [some ((fs ++ [(y : Int)]).map D.int)]) := by
  have sm : small (fs.length + 1) = true := decide_eq_true (by omega)
  have z : cmpD .Eq (.int 1) (.int 1) = some true := rfl
  have z1 : ((v : Int) + 1) = ((v + 1 : Nat) : Int) := (Int.natCast_add v 1).symm
  have z2 : ((b : Int) + 1) = ((b + 1 : Nat) : Int) := (Int.natCast_add b 1).symm
  simp only [lsT, exs, ex, ev, evs, bit, if_true, List.getElem?_cons_succ, List.getElem?_cons_zero, see_int, see_end, get_end, z, op_add, z1, z2, e1, e2, meD, List.length_map, sm, set_end, Option.isSome, setT, List.set_cons_succ, List.set_cons_zero, List.map_append, List.map_cons, List.map_nil]
theorem ls_loop {v0 : Option D} {v : Nat} (hv : 1 ≤ v) (h60 : nb v ≤ 60) : ∀ (c : List Bool) (t : Nat) (fs : List Int) (v5 : Option D), t * nb v ^ ones c ≤ 512 → fs.length + c.length ≤ 1000 →
    ∃ v4' v5', forRun (.n 5) (fun ρ S => exs (run T w (n + 1)) w lsT ρ S) (c.map fun b => D.int (bit b)) [v0, some (.int v), some (.int (v.log2 : Nat)), some (.ref S.length), some (.int t), v5] (S ++ [some (fs.map D.int)]) = some (.nx [v0, some (.int v), some (.int (v.log2 : Nat)), some (.ref S.length), v4', v5'], S ++ [some ((fs ++ secQ v (nb v) c t).map D.int)])
  | [], t, fs, v5, _, _ => ⟨some (.int t), v5, by rw [secQ, List.append_nil]; rfl⟩
  | false :: c, t, fs, v5, h, hl => by
    rw [List.length_cons] at hl
    have h' : t * nb v ^ ones c ≤ 512 := by
      have : ones (false :: c) = ones c := by simp [ones]
      rw [this] at h
      exact h
    obtain ⟨x4, x5, ih⟩ := ls_loop (v0 := v0) hv h60 c t (fs ++ [0]) (some (.int (bit false))) h' (by rw [List.length_append]; simp only [List.length_cons, List.length_nil]; omega)
    refine ⟨x4, x5, ?_⟩
    have e := ls_false (F := run T w (n + 1)) (w := w) (S := S) (v0 := v0) (v1 := some (.int v)) (v2 := some (.int (v.log2 : Nat))) (v4 := some (.int t)) (fs := fs) (by omega)
    rw [List.map_cons, secQ, show fs ++ 0 :: secQ v (nb v) c t = (fs ++ [0]) ++ secQ v (nb v) c t by simp]
    exact (forRun_nx rfl e).trans ih
  | true :: c, t, fs, v5, h, hl => by
    rw [List.length_cons] at hl
    have b1 : 1 ≤ nb v := by rw [nb_eq hv]; omega
    have hb : nb v = v.log2 + 1 := nb_eq hv
    have h' : t * nb v * nb v ^ ones c ≤ 512 := by
      have : ones (true :: c) = ones c + 1 := by simp [ones]; omega
      rw [this, Nat.pow_succ, Nat.mul_comm (nb v ^ ones c), ← Nat.mul_assoc] at h
      exact h
    have ht : t * nb v ≤ 512 := Nat.le_trans (Nat.le_mul_of_pos_right _ (Nat.pow_pos b1)) h'
    have ht2 : t ≤ 512 := Nat.le_trans (Nat.le_mul_of_pos_right _ b1) ht
    obtain ⟨x4, x5, ih⟩ := ls_loop (v0 := v0) hv h60 c (t * nb v) (fs ++ [(((v + 1) ^ t : Nat) : Int)]) (some (.int (bit true))) h' (by rw [List.length_append]; simp only [List.length_cons, List.length_nil]; omega)
    refine ⟨x4, x5, ?_⟩
    have e1 := lpow_ok (w := w) (n := n) (S := S ++ [some (fs.map D.int)]) (x := v + 1) (t := t) (a := nb v) (bound v hv) b1 (by omega) (by rw [Nat.mul_comm]; omega) (by omega)
    have e2 : opD .Mult (.int (t : Int)) (.int ((v.log2 + 1 : Nat) : Int)) = some (.int ((t * (v.log2 + 1) : Nat) : Int)) := by
      rw [op_mul (by simp only [Int.natAbs_natCast]; omega), ← Int.natCast_mul]
    have e := ls_true (F := run T w (n + 1)) (w := w) (S := S) (v0 := v0) (v := v) (t := t) (b := v.log2) (y := (v + 1) ^ t) (fs := fs) (by omega) e1 e2
    rw [← hb] at e
    rw [List.map_cons, secQ, show fs ++ (((v + 1) ^ t : Nat) : Int) :: secQ v (nb v) c (t * nb v) = (fs ++ [(((v + 1) ^ t : Nat) : Int)]) ++ secQ v (nb v) c (t * nb v) by simp]
    exact (forRun_nx rfl e).trans ih
theorem lsecond {v : Nat} {c : List Bool} (hw : 100 ≤ w) (hc : clo S) (hv : 1 ≤ v) (h60 : nb v ≤ 60) (hb : nb v ^ ones c ≤ 512) (hl : c.length ≤ 3) : run T w (n + 2) 24 [wyT c, .int v] S = some (.tup ((secQ v (nb v) c 1).map D.int), S) := by
  have hb1 : nb v = v.log2 + 1 := nb_eq hv
  obtain ⟨x4, x5, e⟩ := ls_loop (w := w) (n := n) (S := S) (v0 := some (wyT c)) hv h60 c 1 [] none (by omega) (by rw [List.length_nil]; omega)
  have eh := ha_loop (w := w) (n := n) (S := S) (v0 := some (wyT c)) (v3 := none) (v4 := none) (v5 := none) hv (by omega) v.log2 w 0 (by omega) (by omega)
  have s1 : ex (run T w (n + 1)) w (.asg (.n 2) (.c (.int 0))) [some (wyT c), some (.int v), none, none, none, none] S = some (.nx [some (wyT c), some (.int v), some (.int (0 : Nat)), none, none, none], S) := by
    simp only [ex, ev, setT, List.set_cons_succ, List.set_cons_zero]
    rfl
  have s2 : ex (run T w (n + 1)) w (.wh haC haB) [some (wyT c), some (.int v), some (.int (0 : Nat)), none, none, none] S = some (.nx [some (wyT c), some (.int v), some (.int (v.log2 : Nat)), none, none, none], S) := by
    rw [ex]
    exact eh
  have s3 : ex (run T w (n + 1)) w (.par [3, 4] (.cons (.new .nil) (.cons (.c (.int 1)) .nil))) [some (wyT c), some (.int v), some (.int (v.log2 : Nat)), none, none, none] S = some (.nx [some (wyT c), some (.int v), some (.int (v.log2 : Nat)), some (.ref S.length), some (.int (1 : Nat)), none], S ++ [some (([] : List Int).map D.int)]) := by
    have zer : small 0 = true := rfl
    simp [ex, ev, evs, mkList, zer]
  have s4 : ex (run T w (n + 1)) w (.for (.n 5) (.v 0) lsT) [some (wyT c), some (.int v), some (.int (v.log2 : Nat)), some (.ref S.length), some (.int (1 : Nat)), none] (S ++ [some (([] : List Int).map D.int)]) = some (.nx [some (wyT c), some (.int v), some (.int (v.log2 : Nat)), some (.ref S.length), x4, x5], S ++ [some ((secQ v (nb v) c 1).map D.int)]) := by
    rw [ex]
    simp only [ev, List.getElem?_cons_zero, wyT, items]
    exact e
  refine run_app (X := [some ((secQ v (nb v) c 1).map D.int)]) t24 rfl hc (by rw [D.pure]; exact pures_ints _) ?_
  have e3 : b__law_second = .cons (.asg (.n 2) (.c (.int 0))) (.cons (.wh haC haB) (.cons (.par [3, 4] (.cons (.new .nil) (.cons (.c (.int 1)) .nil))) (.cons (.for (.n 5) (.v 0) lsT) (.cons (.ret (.bi .tuple (.cons (.v 3) .nil))) .nil)))) := rfl
  show exs _ _ b__law_second [some (wyT c), some (.int v), none, none, none, none] S = _
  rw [e3, exs, s1]
  simp only []
  rw [exs, s2]
  simp only []
  rw [exs, s3]
  simp only []
  rw [exs, s4]
  simp only [exs, ex, ev, evs, List.getElem?_cons_succ, List.getElem?_cons_zero, seeAll, see_end, biD]
end Lk51

set_option Elab.async false
set_option linter.all false
set_option maxRecDepth 512
set_option maxHeartbeats 4000000
namespace Lk51
open PySem Iv
variable {w n : Nat} {S : Sto}
def firstN (c : List Bool) : List Nat := c.map fun b => if b then 2 else 0
def secN (v b : Nat) : List Bool → Nat → List Nat
  | [], _ => []
  | false :: r, t => 0 :: secN v b r t
  | true :: r, t => (v + 1) ^ t :: secN v b r (t * b)
theorem first_nats (c : List Bool) : natsT (firstN c) = .tup ((firstQ c).map D.int) := by
  unfold natsT firstN firstQ
  rw [List.map_map, List.map_map]
  congr 2
  funext b
  cases b <;> rfl
theorem sec_cast (v b : Nat) : ∀ (c : List Bool) (t : Nat), (secN v b c t).map (fun (k : Nat) => (k : Int)) = secQ v b c t
  | [], _ => rfl
  | false :: c, t => by simp only [secN, secQ, List.map_cons, sec_cast v b c t]; rfl
  | true :: c, t => by simp only [secN, secQ, List.map_cons, sec_cast v b c (t * b)]
theorem sec_nats (v b : Nat) (c : List Bool) (t : Nat) : natsT (secN v b c t) = .tup ((secQ v b c t).map D.int) := by
  rw [← sec_cast, natsT, List.map_map]
  rfl
theorem first_len (c : List Bool) : (firstN c).length = c.length := List.length_map _
theorem sec_len (v b : Nat) : ∀ (c : List Bool) (t : Nat), (secN v b c t).length = c.length
  | [], _ => rfl
  | false :: c, t => by rw [secN, List.length_cons, List.length_cons, sec_len v b c t]
  | true :: c, t => by rw [secN, List.length_cons, List.length_cons, sec_len v b c (t * b)]
theorem two_le : (2 : Nat) ≤ 2 ^ bq := Nat.le_trans (by decide : 2 ≤ 2 ^ 1) (Nat.pow_le_pow_right (by decide) (by decide))
theorem first_b (c : List Bool) : ∀ q ∈ firstN c, q ≤ 2 ^ bq := fun q hq => by
  obtain ⟨b, _, rfl⟩ := List.mem_map.mp hq
  cases b
  · exact Nat.zero_le _
  · exact two_le
theorem sec_b {v : Nat} (hv : 1 ≤ v) : ∀ (c : List Bool) (t : Nat), t * nb v ^ ones c ≤ bq → ∀ q ∈ secN v (nb v) c t, q ≤ 2 ^ bq
  | [], _, _, q, hq => by cases hq
  | false :: c, t, h, q, hq => by
    rcases List.mem_cons.mp hq with rfl | hq
    · exact Nat.zero_le _
    · have : ones (false :: c) = ones c := by simp [ones]
      rw [this] at h
      exact sec_b hv c t h q hq
  | true :: c, t, h, q, hq => by
    have b1 : 1 ≤ nb v := by rw [nb_eq hv]; exact Nat.succ_le_succ (Nat.zero_le _)
    have h' : t * nb v * nb v ^ ones c ≤ bq := by
      have : ones (true :: c) = ones c + 1 := by simp [ones, Nat.add_comm]
      rw [this, Nat.pow_succ, Nat.mul_comm (nb v ^ ones c), ← Nat.mul_assoc] at h
      exact h
    rcases List.mem_cons.mp hq with rfl | hq
    · have ht : t * nb v ≤ bq := Nat.le_trans (Nat.le_mul_of_pos_right _ (Nat.pow_pos b1)) h'
      refine Nat.le_trans (pow_le (bound v hv) t) (Nat.pow_le_pow_right (by decide) ?_)
      rw [Nat.mul_comm]
      exact ht
    · exact sec_b hv c (t * nb v) h' q hq
theorem nbk {v k : Nat} (hv : 1 ≤ v) (hk : k ≤ 3) (h0 : k ≠ 0) (h : v ≤ mosts k) : nb v ^ k ≤ bq := by
  have key : ∀ m e : Nat, v < 2 ^ e → e ^ k ≤ bq → nb v ^ k ≤ bq := fun m e h1 h2 => by
    have : nb v ≤ e := by
      rw [nb_eq hv]
      exact (Nat.log2_lt (by omega)).mpr h1
    exact Nat.le_trans (Nat.pow_le_pow_left this k) h2
  rcases (show k = 1 ∨ k = 2 ∨ k = 3 by omega) with rfl | rfl | rfl
  · exact key 0 60 (Nat.lt_of_le_of_lt h (by decide)) (by decide)
  · exact key 0 14 (Nat.lt_of_le_of_lt h (by decide)) (by decide)
  · exact key 0 8 (Nat.lt_of_le_of_lt h (by decide)) (by decide)
def infOf (c : List Bool) (ts : List (List Nat × Nat)) : Inf := ⟨c, worthF 0 ts (firstN c), worthF 0 ts (secN (worthF 0 ts (firstN c)) (nb (worthF 0 ts (firstN c))) c 1)⟩
def askE : E := (.ite (.or (.cmp .Eq (.bi .sum (.cons (.v 0) .nil)) (.c (.int 0))) (.cmp .Lt (.v 3) (.c (.int 2)))) (.lst (.cons (.v 2) .nil)) (.lst (.cons (.v 2) (.cons (.call 24 (.cons (.v 0) (.cons (.v 3) .nil))) .nil))))
theorem ask_ret {F : CF} {c : List Bool} {v1 v4 : Option D} {v : Nat} {q s : D} (e : ones c ≠ 0 → 2 ≤ v → F 24 [wyT c, .int v] S = some (s, S)) : ev F askE [some (wyT c), v1, some q, some (.int v), v4] S = some (.lst (if decide (ones c ≠ 0) && decide (2 ≤ v) then [q, s] else [q]), S) := by
  have one : small 1 = true := rfl
  have two : small 2 = true := rfl
  have z0 : decide ((ones c : Int) = 0) = decide (ones c = 0) := by rw [decide_eq_decide]; omega
  have z1 : decide ((v : Int) < 2) = decide (v < 2) := by rw [decide_eq_decide]; omega
  have s1 : ev F (.cmp .Eq (.bi .sum (.cons (.v 0) .nil)) (.c (.int 0))) [some (wyT c), v1, some q, some (.int v), v4] S = some (.bl (decide (ones c = 0)), S) := by
    simp only [ev, evs, List.getElem?_cons_zero, seeAll, show see S (wyT c) = some (wyT c) from rfl, sum_wy, see_int, cmpD, z0]
  have s2 : ev F (.cmp .Lt (.v 3) (.c (.int 2))) [some (wyT c), v1, some q, some (.int v), v4] S = some (.bl (decide (v < 2)), S) := by
    simp only [ev, List.getElem?_cons_succ, List.getElem?_cons_zero, see_int, cmpD, z1]
  by_cases h0 : ones c = 0
  · have hc : (decide (ones c ≠ 0) && decide (2 ≤ v)) = false := by rw [decide_eq_false (fun h => h h0)]; rfl
    rw [hc, askE, ev, ev, s1, decide_eq_true h0]
    simp only [ev, evs, List.getElem?_cons_succ, List.getElem?_cons_zero, List.length_cons, List.length_nil, Nat.zero_add, one, if_true, Bool.false_eq_true, if_false]
  · by_cases h1 : v < 2
    · have hc : (decide (ones c ≠ 0) && decide (2 ≤ v)) = false := by rw [decide_eq_false (show ¬ 2 ≤ v by omega), Bool.and_false]
      rw [hc, askE, ev, ev, s1, decide_eq_false h0]
      simp only []
      rw [s2, decide_eq_true h1]
      simp only [ev, evs, List.getElem?_cons_succ, List.getElem?_cons_zero, List.length_cons, List.length_nil, Nat.zero_add, one, if_true, Bool.false_eq_true, if_false]
    · have h2 : 2 ≤ v := by omega
      have e' := e h0 h2
      have hc : (decide (ones c ≠ 0) && decide (2 ≤ v)) = true := by rw [decide_eq_true h0, decide_eq_true h2]; rfl
      rw [hc, askE, ev, ev, s1, decide_eq_false h0]
      simp only []
      rw [s2, decide_eq_false h1]
      simp only [ev, evs, List.getElem?_cons_succ, List.getElem?_cons_zero, e', List.length_cons, List.length_nil, Nat.zero_add, Nat.reduceAdd, two, if_true]
theorem lasks {c : List Bool} {ts : List (List Nat × Nat)} (hw : 100 ≤ w) (hc : clo S) (hl : c.length ≤ 3) (h : ∀ t ∈ ts, TermOk c.length t) (hle : ones c = 0 ∨ worthF 0 ts (firstN c) ≤ mosts (ones c)) :
    run T w (n + 3) 25 [wyT c, .lst (ts.map termD)] S = some (.lst ((infOf c ts).fl.map fun p => .tup (p.1.map D.int)), S) := by
  have e1 := lworth (w := w) (n := n) (S := S) (ts := ts) (qs := firstN c) (by rw [first_len]; exact hl) (first_b c) (by rw [first_len]; exact h)
  generalize hV : worthF 0 ts (firstN c) = v at e1 hle
  have e2 : ones c ≠ 0 → 2 ≤ v → run T w (n + 2) 24 [wyT c, .int v] S = some (.tup ((secQ v (nb v) c 1).map D.int), S) := fun h0 h2 => by
    have ho := Nat.le_trans (ones_le c) hl
    have h1 := hle.resolve_left h0
    exact lsecond hw hc (by omega) (nb_le (by omega) (Nat.le_trans h1 (mosts_le _ ho))) (nbk (by omega) ho h0 h1) hl
  have s1 : ex (run T w (n + 2)) w (.asg (.n 2) (.bi .tuple (.cons (.comp false (.n 4) (.v 0) (.op .Mult (.c (.int 2)) (.v 4))) .nil))) [some (wyT c), some (.lst (ts.map termD)), none, none, none] S = some (.nx [some (wyT c), some (.lst (ts.map termD)), some (natsT (firstN c)), none, none], S) := by
    have q := ev_comp (F := run T w (n + 2)) (S := S) (S1 := S) (t := .n 4) (it := .v 0) (elt := .op .Mult (.c (.int 2)) (.v 4)) (ρ := [some (wyT c), some (.lst (ts.map termD)), none, none, none]) (x := wyT c) (xs := c.map fun b => D.int (bit b)) (g := fun d => match d with | .int i => .int (2 * i) | _ => .non) (by simp [ev]) rfl (fun d hd => by
      obtain ⟨b, _, rfl⟩ := List.mem_map.mp hd
      have z : opD .Mult (.int 2) (.int (bit b)) = some (.int (2 * bit b)) := op_mul (by decide)
      exact ⟨_, rfl, by simp only [ev, wipeT, List.set_cons_succ, List.set_cons_zero, List.getElem?_cons_succ, List.getElem?_cons_zero, see_int, z]⟩) (by rw [List.length_map]; omega)
    have z : ((c.map fun b => D.int (bit b)).map fun d => match d with | .int i => D.int (2 * i) | _ => .non) = (firstN c).map fun (k : Nat) => D.int k := by
      rw [List.map_map, firstN, List.map_map]
      congr 1
      funext b
      cases b <;> rfl
    rw [z] at q
    rw [ex, ev, evs, q]
    simp only [evs, seeAll, see, biD, setT, List.set_cons_succ, List.set_cons_zero, natsT]
  have s2 : ex (run T w (n + 2)) w (.asg (.n 3) (.call 23 (.cons (.v 1) (.cons (.v 2) .nil)))) [some (wyT c), some (.lst (ts.map termD)), some (natsT (firstN c)), none, none] S = some (.nx [some (wyT c), some (.lst (ts.map termD)), some (natsT (firstN c)), some (.int v), none], S) := by
    simp only [ex, ev, evs, List.getElem?_cons_succ, List.getElem?_cons_zero, e1, setT, List.set_cons_succ, List.set_cons_zero]
  have s3 := ask_ret (F := run T w (n + 2)) (S := S) (c := c) (v1 := some (.lst (ts.map termD))) (v4 := none) (v := v) (q := natsT (firstN c)) e2
  have e3 : b__law_asks = .cons (.asg (.n 2) (.bi .tuple (.cons (.comp false (.n 4) (.v 0) (.op .Mult (.c (.int 2)) (.v 4))) .nil))) (.cons (.asg (.n 3) (.call 23 (.cons (.v 1) (.cons (.v 2) .nil)))) (.cons (.ret askE) .nil)) := rfl
  refine run_rts t25 rfl rfl ?_
  show exs _ _ b__law_asks [some (wyT c), some (.lst (ts.map termD)), none, none, none] S = _
  rw [e3, exs, s1]
  simp only []
  rw [exs, s2]
  simp only []
  rw [exs, ex, s3]
  simp only []
  congr 4
  unfold infOf Inf.fl Inf.two Inf.sec
  rw [hV]
  simp only
  rw [first_nats]
  cases (decide (ones c ≠ 0) && decide (2 ≤ v)) <;> rfl
end Lk51

set_option Elab.async false
set_option linter.all false
set_option maxRecDepth 512
set_option maxHeartbeats 4000000
namespace Lk51
open PySem Iv
variable {w n : Nat} {S R : Sto} {cs : List Int}
def Off : List Bool → List Nat → Prop
  | [], [] => True
  | false :: c, p :: ps => p = 0 ∧ Off c ps
  | true :: c, _ :: ps => Off c ps
  | _, _ => False
theorem off_len : ∀ (c : List Bool) (ps : List Nat), Off c ps → ps.length = c.length
  | [], [], _ => rfl
  | false :: c, p :: ps, h => by rw [List.length_cons, List.length_cons, off_len c ps h.2]
  | true :: c, _ :: ps, h => by rw [List.length_cons, List.length_cons, off_len c ps h]
  | [], _ :: _, h => h.elim
  | false :: _, [], h => h.elim
  | true :: _, [], h => h.elim
theorem part_first : ∀ (c : List Bool) (ps : List Nat) (s : Nat), Off c ps → partF s (firstN c) ps = s * 2 ^ ps.sum
  | [], [], s, _ => by simp [partF, firstN]
  | false :: c, p :: ps, s, h => by
    obtain ⟨rfl, h⟩ := h
    have ih := part_first c ps (s * 0 ^ 0) h
    simp only [firstN, List.map_cons, Bool.false_eq_true, if_false, partF] at ih ⊢
    rw [ih]
    simp
  | true :: c, p :: ps, s, h => by
    have ih := part_first c ps (s * 2 ^ p) h
    simp only [firstN, List.map_cons, if_true, partF] at ih ⊢
    rw [ih, List.sum_cons, Nat.pow_add, Nat.mul_assoc]
  | [], _ :: _, _, h => h.elim
  | false :: _, [], _, h => h.elim
  | true :: _, [], _, h => h.elim
def tot (ts : List (List Nat × Nat)) : Nat := (ts.map fun t => t.2 * 2 ^ t.1.sum).sum
theorem worth_first (c : List Bool) : ∀ (ts : List (List Nat × Nat)) (k : Nat), (∀ t ∈ ts, Off c t.1) → worthF k ts (firstN c) = k + tot ts
  | [], k, _ => rfl
  | t :: ts, k, h => by
    rw [worthF, part_first c t.1 t.2 (h t List.mem_cons_self), worth_first c ts _ fun x hx => h x (List.mem_cons_of_mem _ hx)]
    simp only [tot, List.map_cons, List.sum_cons]
    omega
theorem tot_snoc (ts : List (List Nat × Nat)) (t : List Nat × Nat) : tot (ts ++ [t]) = tot ts + t.2 * 2 ^ t.1.sum := by
  simp only [tot, List.map_append, List.sum_append, List.map_cons, List.map_nil, List.sum_cons, List.sum_nil, Nat.add_zero]
theorem compRun_cons {f : D → Sto → Option (Option D × Sto)} {d y : D} {ds acc : List D} {S S1 : Sto} (h : f d S = some (some y, S1)) (sm : small (acc.length + 1) = true) : compRun f (d :: ds) acc S = compRun f ds (acc ++ [y]) S1 := by
  simp only [compRun, h, sm, if_true]
theorem pick_int (xs : List Nat) (hx : xs ≠ []) (hl : xs.length ≤ 100) {t h : Int} (t0 : 0 ≤ t) (t1 : t ≤ 1000000) (h0 : 0 ≤ h) :
    ∃ (x : Nat) (t' h' : Int), x ∈ xs ∧ t ≤ t' ∧ t' ≤ t + 1 ∧ 0 ≤ h' ∧ run T w (n + 2) 19 [.ref 0, .lst (xs.map fun (k : Nat) => D.int k)] (some (shelf cs t h) :: R) = some (.int x, some (shelf cs t' h') :: R) := by
  obtain ⟨j, d, t', h', hj, q⟩ := one_ok (n := n) (dr (w := w) cs) t19 (xs := xs.map fun (k : Nat) => D.int k) (by simpa using hx) (by rw [List.length_map]; exact Nat.lt_of_le_of_lt hl (by decide)) (R := R) t0 t1 h0
  rw [List.getElem?_map] at hj
  cases hx2 : xs[j]? with
  | none => rw [hx2] at hj; cases hj
  | some x =>
    rw [hx2] at hj
    cases hj
    exact ⟨x, t', h', List.mem_of_getElem? hx2, q⟩
theorem draw_nat {m : Nat} (hm : 0 < m) (hm2 : m ≤ 10 ^ 9) {t h : Int} (t0 : 0 ≤ t) (t1 : t ≤ 1000000) (h0 : 0 ≤ h) :
    ∃ (r : Nat) (t' h' : Int), r < m ∧ t ≤ t' ∧ t' ≤ t + 1 ∧ 0 ≤ h' ∧ run T w (n + 1) 18 [.ref 0, .int m] (some (shelf cs t h) :: R) = some (.int r, some (shelf cs t' h') :: R) := by
  obtain ⟨r, t', h', r0, r1, q1, q2, q3, e⟩ := (dr (w := w) cs).ok n R m t h (by omega) (by omega) t0 t1 h0
  obtain ⟨j, rfl⟩ := Int.eq_ofNat_of_zero_le r0
  exact ⟨j, t', h', by omega, q1, q2, q3, e⟩
def pwE : E := (.op .Mult (.call 18 (.cons (.v 0) (.cons (.op .Add (.v 6) (.c (.int 1))) .nil))) (.v 10))
def pwF (F : CF) (ρ : Iv.Env) (d : D) (S : Sto) : Option (Option D × Sto) := match setT (.n 10) d (wipeT (.n 10) ρ) with
  | none => none
  | some ρ' => match ev F pwE ρ' S with
    | none => none
    | some (y, S') => some (some y, S')
theorem pw_step {F : CF} {v1 v2 v3 v4 v5 v7 v8 v9 v10 : Option D} {far r b : Nat} {S S1 : Sto} (e : F 18 [.ref 0, .int ((far + 1 : Nat) : Int)] S = some (.int (r : Nat), S1)) (z : opD .Mult (.int (r : Int)) (.int (b : Int)) = some (.int ((r * b : Nat) : Int))) :
    pwF F [some (.ref 0), v1, v2, v3, v4, v5, some (.int far), v7, v8, v9, v10] (.int b) S = some (some (.int (r * b : Nat)), S1) := by
  have z1 : ((far : Int) + 1) = ((far + 1 : Nat) : Int) := (Int.natCast_add far 1).symm
  simp only [pwF, pwE, setT, wipeT, ev, evs, List.set_cons_succ, List.set_cons_zero, List.getElem?_cons_succ, List.getElem?_cons_zero, see_int, op_add, z1, e, z]
def bitN (b : Bool) : Nat := if b then 1 else 0
theorem bit_cast (b : Bool) : bit b = ((bitN b : Nat) : Int) := by cases b <;> rfl
theorem pw_loop {v1 v2 v3 v4 v5 v7 v8 v9 v10 : Option D} {far : Nat} (hf : far ≤ 8) : ∀ (c : List Bool) (acc : List D) (t h : Int), acc.length + c.length ≤ 1000 → 0 ≤ t → t + c.length ≤ 1000000 → 0 ≤ h →
    ∃ (ps : List Nat) (t' h' : Int), Off c ps ∧ (∀ p ∈ ps, p ≤ 8) ∧ t ≤ t' ∧ t' ≤ t + c.length ∧ 0 ≤ h' ∧ compRun (pwF (run T w (n + 1)) [some (.ref 0), v1, v2, v3, v4, v5, some (.int far), v7, v8, v9, v10]) (c.map fun b => D.int (bit b)) acc (some (shelf cs t h) :: R) = some (acc ++ ps.map (fun (k : Nat) => D.int k), some (shelf cs t' h') :: R)
  | [], acc, t, h, _, t0, _, h0 => ⟨[], t, h, trivial, (fun p hp => absurd hp List.not_mem_nil), Int.le_refl _, (by simp), h0, (by simp [compRun])⟩
  | b :: c, acc, t, h, hl, t0, t1, h0 => by
    rw [List.length_cons] at hl
    have hl2 : (((b :: c).length : Nat) : Int) = (c.length : Int) + 1 := by rw [List.length_cons]; omega
    rw [hl2] at t1
    obtain ⟨r, t', h', r1, q1, q2, q3, e⟩ := draw_nat (w := w) (n := n) (R := R) (cs := cs) (m := far + 1) (by omega) (Nat.le_trans (Nat.succ_le_succ hf) (by decide)) t0 (by omega) h0
    have z : opD .Mult (.int (r : Int)) (.int ((bitN b : Nat) : Int)) = some (.int ((r * bitN b : Nat) : Int)) := by
      rw [op_mul (by rw [Int.natAbs_natCast]; omega), ← Int.natCast_mul]
    have st := pw_step (F := run T w (n + 1)) (v1 := v1) (v2 := v2) (v3 := v3) (v4 := v4) (v5 := v5) (v7 := v7) (v8 := v8) (v9 := v9) (v10 := v10) (far := far) (b := bitN b) e z
    obtain ⟨ps, t2, h2, o1, o2, o3, o4, o5, o6⟩ := pw_loop (v1 := v1) (v2 := v2) (v3 := v3) (v4 := v4) (v5 := v5) (v7 := v7) (v8 := v8) (v9 := v9) (v10 := v10) hf c (acc ++ [.int (r * bitN b : Nat)]) t' h' (by rw [List.length_append]; simp only [List.length_cons, List.length_nil]; omega) (by omega) (by omega) q3
    refine ⟨(r * bitN b) :: ps, t2, h2, ?_, fun p hp => ?_, by omega, by rw [hl2]; omega, o5, ?_⟩
    · cases b
      · exact ⟨Nat.mul_zero _, o1⟩
      · exact o1
    · rcases List.mem_cons.mp hp with rfl | hp
      · cases b
        · exact Nat.zero_le _
        · show r * 1 ≤ 8
          omega
      · exact o2 p hp
    · rw [List.map_cons, bit_cast, compRun_cons st (decide_eq_true (by omega)), o6]
      simp
def farE : E := (.call 19 (.cons (.v 0) (.cons (.lst (.cons (.c (.int 2)) (.cons (.c (.int 3)) (.cons (.c (.int 1)) (.cons (.ite (.cmp .Eq (.bi .sum (.cons (.v 1) .nil)) (.c (.int 1))) (.c (.int 8)) (.c (.int 4))) .nil))))) .nil)))
def shaE : E := (.op .Add (.c (.int 1)) (.call 18 (.cons (.v 0) (.cons (.call 19 (.cons (.v 0) (.cons (.lst (.cons (.c (.int 1)) (.cons (.c (.int 3)) (.cons (.c (.int 30)) (.cons (.ite (.cmp .Eq (.bi .sum (.cons (.v 1) .nil)) (.c (.int 1))) (.op .Pow (.c (.int 10)) (.c (.int 6))) (.c (.int 9))) .nil))))) .nil))) .nil))))
theorem evs_cons {F : CF} {e : E} {es : Es} {ρ : Iv.Env} {S1 S2 : Sto} {x : D} {xs : List D} (h1 : ev F e ρ S = some (x, S1)) (h2 : evs F es ρ S1 = some (xs, S2)) : evs F (.cons e es) ρ S = some (x :: xs, S2) := by simp only [evs, h1, h2]
theorem evs_nil {F : CF} {ρ : Iv.Env} : evs F .nil ρ S = some ([], S) := by simp only [evs]
theorem ev_c {F : CF} {ρ : Iv.Env} {d : D} : ev F (.c d) ρ S = some (d, S) := by simp only [ev]
theorem ev_lst {F : CF} {es : Es} {ρ : Iv.Env} {S1 : Sto} {xs : List D} (h : evs F es ρ S = some (xs, S1)) (sm : small xs.length = true) : ev F (.lst es) ρ S = some (.lst xs, S1) := by simp only [ev, h, sm, if_true]
theorem sum_one {F : CF} {c : List Bool} {ρ : Iv.Env} (h : ρ[1]? = some (some (wyT c))) : ev F (.cmp .Eq (.bi .sum (.cons (.v 1) .nil)) (.c (.int 1))) ρ S = some (.bl (decide (ones c = 1)), S) := by
  have z0 : decide ((ones c : Int) = 1) = decide (ones c = 1) := by rw [decide_eq_decide]; omega
  simp only [ev, evs, h, seeAll, show see S (wyT c) = some (wyT c) from rfl, sum_wy, see_int, cmpD, z0]
theorem far_ev {F : CF} {c : List Bool} {ρ : Iv.Env} {S1 : Sto} {x : D} (h0 : ρ[0]? = some (some (.ref 0))) (h1 : ρ[1]? = some (some (wyT c))) (e : F 19 [.ref 0, .lst [.int 2, .int 3, .int 1, .int (if ones c = 1 then 8 else 4)]] S = some (x, S1)) : ev F farE ρ S = some (x, S1) := by
  have four : small 4 = true := rfl
  have s := sum_one (F := F) (S := S) h1
  have s2 : ev F (.ite (.cmp .Eq (.bi .sum (.cons (.v 1) .nil)) (.c (.int 1))) (.c (.int 8)) (.c (.int 4))) ρ S = some (.int (if ones c = 1 then 8 else 4), S) := by
    rw [ev, s]
    by_cases h : ones c = 1
    · rw [decide_eq_true h, if_pos h]; simp only [ev]
    · rw [decide_eq_false h, if_neg h]; simp only [ev]
  have s3 : ev F (.lst (.cons (.c (.int 2)) (.cons (.c (.int 3)) (.cons (.c (.int 1)) (.cons (.ite (.cmp .Eq (.bi .sum (.cons (.v 1) .nil)) (.c (.int 1))) (.c (.int 8)) (.c (.int 4))) .nil))))) ρ S = some (.lst [.int 2, .int 3, .int 1, .int (if ones c = 1 then 8 else 4)], S) := by
    exact ev_lst (evs_cons ev_c (evs_cons ev_c (evs_cons ev_c (evs_cons s2 evs_nil)))) four
  rw [farE, ev, evs, ev, h0]
  simp only []
  rw [evs, s3]
  simp only [evs, e]
theorem sha_ev {F : CF} {c : List Bool} {ρ : Iv.Env} {S1 S2 : Sto} {m r : Nat} (h0 : ρ[0]? = some (some (.ref 0))) (h1 : ρ[1]? = some (some (wyT c))) (e : F 19 [.ref 0, .lst [.int 1, .int 3, .int 30, .int (if ones c = 1 then 1000000 else 9)]] S = some (.int m, S1)) (e2 : F 18 [.ref 0, .int m] S1 = some (.int r, S2)) : ev F shaE ρ S = some (.int ((r + 1 : Nat) : Int), S2) := by
  have four : small 4 = true := rfl
  have s := sum_one (F := F) (S := S) h1
  have z : opD .Pow (.int 10) (.int 6) = some (.int 1000000) := by rw [op_pow (by decide) (by decide) (by decide)]; rfl
  have z1 : ((1 : Int) + (r : Int)) = ((r + 1 : Nat) : Int) := by omega
  have s2 : ev F (.ite (.cmp .Eq (.bi .sum (.cons (.v 1) .nil)) (.c (.int 1))) (.op .Pow (.c (.int 10)) (.c (.int 6))) (.c (.int 9))) ρ S = some (.int (if ones c = 1 then 1000000 else 9), S) := by
    rw [ev, s]
    by_cases h : ones c = 1
    · rw [decide_eq_true h, if_pos h]; simp only [ev, see_int, z]
    · rw [decide_eq_false h, if_neg h]; simp only [ev]
  have s3 : ev F (.lst (.cons (.c (.int 1)) (.cons (.c (.int 3)) (.cons (.c (.int 30)) (.cons (.ite (.cmp .Eq (.bi .sum (.cons (.v 1) .nil)) (.c (.int 1))) (.op .Pow (.c (.int 10)) (.c (.int 6))) (.c (.int 9))) .nil))))) ρ S = some (.lst [.int 1, .int 3, .int 30, .int (if ones c = 1 then 1000000 else 9)], S) := by
    exact ev_lst (evs_cons ev_c (evs_cons ev_c (evs_cons ev_c (evs_cons s2 evs_nil)))) four
  have s4 : ev F (.call 19 (.cons (.v 0) (.cons (.lst (.cons (.c (.int 1)) (.cons (.c (.int 3)) (.cons (.c (.int 30)) (.cons (.ite (.cmp .Eq (.bi .sum (.cons (.v 1) .nil)) (.c (.int 1))) (.op .Pow (.c (.int 10)) (.c (.int 6))) (.c (.int 9))) .nil))))) .nil))) ρ S = some (.int m, S1) := by
    rw [ev, evs, ev, h0]
    simp only []
    rw [evs, s3]
    simp only [evs, e]
  rw [shaE, ev, ev]
  simp only []
  rw [ev, evs, ev, h0]
  simp only []
  rw [evs, s4]
  simp only [evs, e2, see_int, op_add, z1]
end Lk51

set_option Elab.async false
set_option linter.all false
set_option maxRecDepth 512
set_option maxHeartbeats 4000000
namespace Lk51
open PySem Iv
variable {w n : Nat} {S R : Sto} {cs : List Int}
theorem comp_pw {F : CF} {ρ : Iv.Env} {c : List Bool} {ys : List D} {S1 : Sto} (h1 : ρ[1]? = some (some (wyT c))) (h : compRun (pwF F ρ) (c.map fun b => D.int (bit b)) [] S = some (ys, S1)) : ev F (.comp false (.n 10) (.v 1) pwE) ρ S = some (.lst ys, S1) := by
  have h0 : ev F (.v 1) ρ S = some (wyT c, S) := by simp only [ev, h1]
  rw [ev, h0]
  show (match compRun (pwF F ρ) (c.map fun b => D.int (bit b)) [] S with
    | none => none
    | some (ys, S2) => mkList false ys S2) = _
  rw [h]
  rfl
theorem ints_nat : ∀ ps : List Nat, ints? (ps.map fun (k : Nat) => D.int k) = some (ps.map fun (k : Nat) => (k : Int))
  | [] => rfl
  | p :: ps => by simp [ints?, ints_nat ps]
theorem sum_nat : ∀ ps : List Nat, (ps.map fun (k : Nat) => (k : Int)).sum = ((ps.sum : Nat) : Int)
  | [] => rfl
  | p :: ps => by rw [List.map_cons, List.sum_cons, sum_nat ps, List.sum_cons, Int.natCast_add]
def worE : E := (.op .Mult (.v 8) (.call 20 (.cons (.c (.int 2)) (.cons (.bi .sum (.cons (.v 7) .nil)) .nil))))
theorem wor_ev {F : CF} {ρ : Iv.Env} {ps : List Nat} {s q : Nat} (h7 : ρ[7]? = some (some (.lst (ps.map fun (k : Nat) => D.int k)))) (h8 : ρ[8]? = some (some (.int s))) (e : F 20 [.int 2, .int ((ps.sum : Nat) : Int)] S = some (.int (q : Nat), S)) (z : opD .Mult (.int (s : Int)) (.int (q : Int)) = some (.int ((s * q : Nat) : Int))) :
    ev F worE ρ S = some (.int (s * q : Nat), S) := by
  have z1 : biD .sum [.lst (ps.map fun (k : Nat) => D.int k)] = some (.int ((ps.sum : Nat) : Int)) := by
    show (ints? _).map _ = _
    rw [ints_nat, Option.map_some, sum_nat]
  have z2 : see S (.lst (ps.map fun (k : Nat) => D.int k)) = some (.lst (ps.map fun (k : Nat) => D.int k)) := rfl
  simp only [worE, ev, evs, h7, h8, seeAll, z2, z1, e, see_int, z]
def addS : St := (.ifs (.cmp .LtE (.op .Add (.v 4) (.v 9)) (.v 2)) (.cons (.asg (.n 4) (.op .Add (.v 4) (.v 9))) (.cons (.ex (.meth .append (.v 3) (.cons (.tup (.cons (.v 7) (.cons (.v 8) .nil))) .nil))) .nil)) .nil)
theorem add_yes {F : CF} {a0 a1 a5 a6 a10 : Option D} {most total k s r : Nat} {ps : List Nat} {xs : List D} (h : total + k ≤ most) (hr : S[r]? = some (some xs)) (hl : xs.length ≤ 1000) :
    ex F w addS [a0, a1, some (.int most), some (.ref r), some (.int total), a5, a6, some (.lst (ps.map fun (k : Nat) => D.int k)), some (.int s), some (.int k), a10] S = some (.nx [a0, a1, some (.int most), some (.ref r), some (.int (total + k : Nat)), a5, a6, some (.lst (ps.map fun (k : Nat) => D.int k)), some (.int s), some (.int k), a10], S.set r (some (xs ++ [termD (ps, s)]))) := by
  have z1 : ((total : Int) + (k : Int)) = ((total + k : Nat) : Int) := (Int.natCast_add total k).symm
  have z2 : cmpD .LtE (.int ((total + k : Nat) : Int)) (.int (most : Int)) = some true := by
    show some (decide _) = _
    rw [decide_eq_true (Int.ofNat_le.mpr h)]
  have two : small 2 = true := rfl
  have sm : small (xs.length + 1) = true := decide_eq_true (by omega)
  have z3 : see S (.ref r) = some (.lst xs) := by simp only [see, hr]
  have z4 : termD (ps, s) = .tup [.lst (ps.map fun (k : Nat) => D.int k), .int s] := rfl
  rw [z4]
  simp only [addS, ex, exs, ev, evs, List.getElem?_cons_succ, List.getElem?_cons_zero, see_int, op_add, z1, z2, setT, List.set_cons_succ, List.set_cons_zero, z3, Option.isSome, if_true, List.length_cons, List.length_nil, Nat.zero_add, Nat.reduceAdd, two, meD, hr, sm]
theorem add_no {F : CF} {a0 a1 a3 a5 a6 a7 a8 a10 : Option D} {most total k : Nat} (h : ¬ total + k ≤ most) :
    ex F w addS [a0, a1, some (.int most), a3, some (.int total), a5, a6, a7, a8, some (.int k), a10] S = some (.nx [a0, a1, some (.int most), a3, some (.int total), a5, a6, a7, a8, some (.int k), a10], S) := by
  have z1 : ((total : Int) + (k : Int)) = ((total + k : Nat) : Int) := (Int.natCast_add total k).symm
  have z2 : cmpD .LtE (.int ((total + k : Nat) : Int)) (.int (most : Int)) = some false := by
    show some (decide _) = _
    rw [decide_eq_false (fun q => h (Int.ofNat_le.mp q))]
  simp only [addS, ex, exs, ev, evs, List.getElem?_cons_succ, List.getElem?_cons_zero, see_int, op_add, z1, z2]
def teB : Ss := (.cons (.asg (.n 6) farE) (.cons (.asg (.n 7) (.comp false (.n 10) (.v 1) pwE)) (.cons (.asg (.n 8) shaE) (.cons (.asg (.n 9) worE) (.cons addS .nil)))))
structure TsOk (c : List Bool) (most : Nat) (ts : List (List Nat × Nat)) : Prop where
  t : ∀ t ∈ ts, TermOk c.length t
  o : ∀ t ∈ ts, Off c t.1
  m : tot ts ≤ most
theorem sum_le : ∀ ps : List Nat, (∀ p ∈ ps, p ≤ 8) → ps.sum ≤ 8 * ps.length
  | [], _ => Nat.le_refl _
  | p :: ps, h => by
    have := sum_le ps fun q hq => h q (List.mem_cons_of_mem _ hq)
    have := h p List.mem_cons_self
    rw [List.sum_cons, List.length_cons]
    omega
theorem get_last2 {x : Option (List D)} {y : Option (List D)} : (x :: (R ++ [y]))[R.length + 1]? = some y := by
  rw [List.getElem?_cons_succ]
  exact get_end
theorem set_last2 {x y z : Option (List D)} : (x :: (R ++ [y])).set (R.length + 1) z = x :: (R ++ [z]) := by
  rw [List.set_cons_succ, set_end]
/-- a term more, or none -/
theorem te_turn {c : List Bool} {most : Nat} {ts : List (List Nat × Nat)} {t h : Int} {a5 a6 a7 a8 a9 a10 : Option D} (hc : c.length ≤ 3) (hts : TsOk c most ts) (hl : ts.length ≤ 100) (t0 : 0 ≤ t) (t1 : t + c.length + 3 ≤ 1000000) (h0 : 0 ≤ h) :
    ∃ (ts' : List (List Nat × Nat)) (t' h' : Int) (b6 b7 b8 b9 : Option D), TsOk c most ts' ∧ ts'.length ≤ ts.length + 1 ∧ t ≤ t' ∧ t' ≤ t + c.length + 3 ∧ 0 ≤ h' ∧
      exs (run T w (n + 2)) w teB [some (.ref 0), some (wyT c), some (.int most), some (.ref (R.length + 1)), some (.int (tot ts)), a5, a6, a7, a8, a9, a10] (some (shelf cs t h) :: (R ++ [some (ts.map termD)])) =
        some (.nx [some (.ref 0), some (wyT c), some (.int most), some (.ref (R.length + 1)), some (.int (tot ts')), a5, b6, b7, b8, b9, a10], some (shelf cs t' h') :: (R ++ [some (ts'.map termD)])) := by
  obtain ⟨far, ta, ha, f1, f2, f3, f4, e1⟩ := pick_int (w := w) (n := n) (cs := cs) (R := R ++ [some (ts.map termD)]) [2, 3, 1, if ones c = 1 then 8 else 4] (by simp) (by simp) t0 (by omega) h0
  have hf : far ≤ 8 := by
    simp only [List.mem_cons, List.not_mem_nil, or_false] at f1
    rcases f1 with rfl | rfl | rfl | rfl
    · decide
    · decide
    · decide
    · split <;> decide
  have e1' : run T w (n + 2) 19 [.ref 0, .lst [.int 2, .int 3, .int 1, .int (if ones c = 1 then 8 else 4)]] (some (shelf cs t h) :: (R ++ [some (ts.map termD)])) = some (.int far, some (shelf cs ta ha) :: (R ++ [some (ts.map termD)])) := by
    rw [← e1]
    by_cases q : ones c = 1
    · rw [if_pos q, if_pos q]; rfl
    · rw [if_neg q, if_neg q]; rfl
  obtain ⟨ps, tb, hb, p1, p2, p3, p4, p5, e2⟩ := pw_loop (w := w) (n := n + 1) (cs := cs) (R := R ++ [some (ts.map termD)]) (v1 := some (wyT c)) (v2 := some (.int most)) (v3 := some (.ref (R.length + 1))) (v4 := some (.int (tot ts))) (v5 := a5) (v7 := a7) (v8 := a8) (v9 := a9) (v10 := a10) hf c [] ta ha (by rw [List.length_nil]; omega) (by omega) (by omega) f4
  obtain ⟨m, tc, hcc, m1, m2, m3, m4, e3⟩ := pick_int (w := w) (n := n) (cs := cs) (R := R ++ [some (ts.map termD)]) [1, 3, 30, if ones c = 1 then 1000000 else 9] (by simp) (by simp) (t := tb) (by omega) (by omega) p5
  have hm : 0 < m ∧ m ≤ 1000000 := by
    simp only [List.mem_cons, List.not_mem_nil, or_false] at m1
    rcases m1 with rfl | rfl | rfl | rfl
    · decide
    · decide
    · decide
    · split <;> decide
  have e3' : run T w (n + 2) 19 [.ref 0, .lst [.int 1, .int 3, .int 30, .int (if ones c = 1 then 1000000 else 9)]] (some (shelf cs tb hb) :: (R ++ [some (ts.map termD)])) = some (.int m, some (shelf cs tc hcc) :: (R ++ [some (ts.map termD)])) := by
    rw [← e3]
    by_cases q : ones c = 1
    · rw [if_pos q, if_pos q]; rfl
    · rw [if_neg q, if_neg q]; rfl
  obtain ⟨r, td, hd, r1, r2, r3, r4, e4⟩ := draw_nat (w := w) (n := n + 1) (cs := cs) (R := R ++ [some (ts.map termD)]) hm.1 (Nat.le_trans hm.2 (by decide)) (t := tc) (by omega) (by omega) m4
  have hsum : ps.sum ≤ 24 := by
    have := sum_le ps p2
    rw [off_len c ps p1] at this
    omega
  have e5 := two_pow (w := w) (n := n + 1) (S := some (shelf cs td hd) :: (R ++ [some (ts.map termD)])) (t := ps.sum) (by omega)
  have hs30 : r + 1 ≤ 2 ^ 30 := Nat.le_trans (show r + 1 ≤ 1000000 by omega) (by decide)
  have z5 : opD .Mult (.int ((r + 1 : Nat) : Int)) (.int ((2 ^ ps.sum : Nat) : Int)) = some (.int (((r + 1) * 2 ^ ps.sum : Nat) : Int)) := by
    rw [op_mul (by rw [Int.natAbs_natCast]; exact Nat.lt_of_le_of_lt hs30 (by decide)), ← Int.natCast_mul]
  generalize hq : 2 ^ ps.sum = q at e5 z5
  have s1 : ex (run T w (n + 2)) w (.asg (.n 6) farE) [some (.ref 0), some (wyT c), some (.int most), some (.ref (R.length + 1)), some (.int (tot ts)), a5, a6, a7, a8, a9, a10] (some (shelf cs t h) :: (R ++ [some (ts.map termD)])) = some (.nx [some (.ref 0), some (wyT c), some (.int most), some (.ref (R.length + 1)), some (.int (tot ts)), a5, some (.int far), a7, a8, a9, a10], some (shelf cs ta ha) :: (R ++ [some (ts.map termD)])) := by
    rw [ex, far_ev (c := c) rfl rfl e1']
    rfl
  have s2 : ex (run T w (n + 2)) w (.asg (.n 7) (.comp false (.n 10) (.v 1) pwE)) [some (.ref 0), some (wyT c), some (.int most), some (.ref (R.length + 1)), some (.int (tot ts)), a5, some (.int far), a7, a8, a9, a10] (some (shelf cs ta ha) :: (R ++ [some (ts.map termD)])) = some (.nx [some (.ref 0), some (wyT c), some (.int most), some (.ref (R.length + 1)), some (.int (tot ts)), a5, some (.int far), some (.lst (ps.map fun (k : Nat) => D.int k)), a8, a9, a10], some (shelf cs tb hb) :: (R ++ [some (ts.map termD)])) := by
    rw [ex, comp_pw (c := c) rfl e2]
    rfl
  have s3 : ex (run T w (n + 2)) w (.asg (.n 8) shaE) [some (.ref 0), some (wyT c), some (.int most), some (.ref (R.length + 1)), some (.int (tot ts)), a5, some (.int far), some (.lst (ps.map fun (k : Nat) => D.int k)), a8, a9, a10] (some (shelf cs tb hb) :: (R ++ [some (ts.map termD)])) = some (.nx [some (.ref 0), some (wyT c), some (.int most), some (.ref (R.length + 1)), some (.int (tot ts)), a5, some (.int far), some (.lst (ps.map fun (k : Nat) => D.int k)), some (.int ((r + 1 : Nat) : Int)), a9, a10], some (shelf cs td hd) :: (R ++ [some (ts.map termD)])) := by
    rw [ex, sha_ev (c := c) rfl rfl e3' e4]
    rfl
  have s4 : ex (run T w (n + 2)) w (.asg (.n 9) worE) [some (.ref 0), some (wyT c), some (.int most), some (.ref (R.length + 1)), some (.int (tot ts)), a5, some (.int far), some (.lst (ps.map fun (k : Nat) => D.int k)), some (.int ((r + 1 : Nat) : Int)), a9, a10] (some (shelf cs td hd) :: (R ++ [some (ts.map termD)])) = some (.nx [some (.ref 0), some (wyT c), some (.int most), some (.ref (R.length + 1)), some (.int (tot ts)), a5, some (.int far), some (.lst (ps.map fun (k : Nat) => D.int k)), some (.int ((r + 1 : Nat) : Int)), some (.int (((r + 1) * q : Nat) : Int)), a10], some (shelf cs td hd) :: (R ++ [some (ts.map termD)])) := by
    rw [ex, wor_ev rfl rfl e5 z5]
    rfl
  have join : ∀ {res : Iv.Env × Sto}, ex (run T w (n + 2)) w addS [some (.ref 0), some (wyT c), some (.int most), some (.ref (R.length + 1)), some (.int (tot ts)), a5, some (.int far), some (.lst (ps.map fun (k : Nat) => D.int k)), some (.int ((r + 1 : Nat) : Int)), some (.int (((r + 1) * q : Nat) : Int)), a10] (some (shelf cs td hd) :: (R ++ [some (ts.map termD)])) = some (.nx res.1, res.2) →
      exs (run T w (n + 2)) w teB [some (.ref 0), some (wyT c), some (.int most), some (.ref (R.length + 1)), some (.int (tot ts)), a5, a6, a7, a8, a9, a10] (some (shelf cs t h) :: (R ++ [some (ts.map termD)])) = some (.nx res.1, res.2) := fun e => by
    rw [teB, exs, s1]
    simp only []
    rw [exs, s2]
    simp only []
    rw [exs, s3]
    simp only []
    rw [exs, s4]
    simp only []
    rw [exs, e]
    simp only [exs]
  by_cases hle : tot ts + (r + 1) * q ≤ most
  · have s5 := add_yes (F := run T w (n + 2)) (w := w) (S := some (shelf cs td hd) :: (R ++ [some (ts.map termD)])) (a0 := some (.ref 0)) (a1 := some (wyT c)) (a5 := a5) (a6 := some (.int far)) (a10 := a10) (s := r + 1) (r := R.length + 1) (ps := ps) (xs := ts.map termD) hle get_last2 (by rw [List.length_map]; omega)
    rw [set_last2] at s5
    have et : tot (ts ++ [(ps, r + 1)]) = tot ts + (r + 1) * q := by rw [tot_snoc, ← hq]
    refine ⟨ts ++ [(ps, r + 1)], td, hd, some (.int far), some (.lst (ps.map fun (k : Nat) => D.int k)), some (.int ((r + 1 : Nat) : Int)), some (.int (((r + 1) * q : Nat) : Int)), ⟨fun x hx => ?_, fun x hx => ?_, by rw [et]; exact hle⟩, by rw [List.length_append]; exact Nat.le_refl _, by omega, by omega, r4, ?_⟩
    · rcases List.mem_append.mp hx with hx | hx
      · exact hts.t x hx
      · cases List.mem_singleton.mp hx
        exact ⟨off_len c ps p1, p2, hs30⟩
    · rcases List.mem_append.mp hx with hx | hx
      · exact hts.o x hx
      · cases List.mem_singleton.mp hx
        exact p1
    · rw [et, List.map_append]
      exact join (res := (_, _)) s5
  · have s5 := add_no (F := run T w (n + 2)) (w := w) (S := some (shelf cs td hd) :: (R ++ [some (ts.map termD)])) (a0 := some (.ref 0)) (a1 := some (wyT c)) (a3 := some (.ref (R.length + 1))) (a5 := a5) (a6 := some (.int far)) (a7 := some (.lst (ps.map fun (k : Nat) => D.int k))) (a8 := some (.int ((r + 1 : Nat) : Int))) (a10 := a10) hle
    exact ⟨ts, td, hd, some (.int far), some (.lst (ps.map fun (k : Nat) => D.int k)), some (.int ((r + 1 : Nat) : Int)), some (.int (((r + 1) * q : Nat) : Int)), hts, Nat.le_succ _, by omega, by omega, r4, join (res := (_, _)) s5⟩
end Lk51

set_option Elab.async false
set_option linter.all false
set_option maxRecDepth 512
set_option maxHeartbeats 4000000
namespace Lk51
open PySem Iv
variable {w n : Nat} {S R : Sto} {cs : List Int}
theorem te_loop {c : List Bool} {most : Nat} {a10 : Option D} (hc : c.length ≤ 3) : ∀ (ds : List D) (ts : List (List Nat × Nat)) (t h : Int) (a5 a6 a7 a8 a9 : Option D), TsOk c most ts → ts.length + ds.length ≤ 100 → 0 ≤ t → t + 6 * ds.length ≤ 1000000 → 0 ≤ h →
    ∃ (ts' : List (List Nat × Nat)) (t' h' : Int) (b5 b6 b7 b8 b9 : Option D), TsOk c most ts' ∧ ts'.length ≤ ts.length + ds.length ∧ t ≤ t' ∧ t' ≤ t + 6 * ds.length ∧ 0 ≤ h' ∧
      forRun (.n 5) (fun ρ S => exs (run T w (n + 2)) w teB ρ S) ds [some (.ref 0), some (wyT c), some (.int most), some (.ref (R.length + 1)), some (.int (tot ts)), a5, a6, a7, a8, a9, a10] (some (shelf cs t h) :: (R ++ [some (ts.map termD)])) =
        some (.nx [some (.ref 0), some (wyT c), some (.int most), some (.ref (R.length + 1)), some (.int (tot ts')), b5, b6, b7, b8, b9, a10], some (shelf cs t' h') :: (R ++ [some (ts'.map termD)]))
  | [], ts, t, h, a5, a6, a7, a8, a9, hts, _, t0, _, h0 => ⟨ts, t, h, a5, a6, a7, a8, a9, hts, Nat.le_refl _, Int.le_refl _, by simp, h0, rfl⟩
  | d :: ds, ts, t, h, a5, a6, a7, a8, a9, hts, hl, t0, t1, h0 => by
    rw [List.length_cons] at hl
    have hl2 : (((d :: ds).length : Nat) : Int) = (ds.length : Int) + 1 := by rw [List.length_cons]; omega
    rw [hl2] at t1
    obtain ⟨ts2, t2, h2, b6, b7, b8, b9, o1, o2, o3, o4, o5, e⟩ := te_turn (w := w) (n := n) (R := R) (cs := cs) (a5 := some d) (a6 := a6) (a7 := a7) (a8 := a8) (a9 := a9) (a10 := a10) hc hts (by omega) t0 (by omega) h0
    obtain ⟨ts3, t3, h3, c5, c6, c7, c8, c9, q1, q2, q3, q4, q5, ih⟩ := te_loop (a10 := a10) hc ds ts2 t2 h2 (some d) b6 b7 b8 b9 o1 (by omega) (by omega) (by omega) o5
    refine ⟨ts3, t3, h3, c5, c6, c7, c8, c9, q1, by rw [List.length_cons]; omega, by omega, by rw [hl2]; omega, q5, ?_⟩
    exact (forRun_nx rfl e).trans ih
def mostL (k : Nat) : Nat := [50, 10 ^ 18, 10 ^ 4, 200].getD k 0
theorem mostL_eq : ∀ k, k ≤ 3 → k = 0 ∨ mostL k = mosts k := by decide
theorem most_ix {F : CF} {c : List Bool} {ρ : Iv.Env} (hc : ones c ≤ 3) (h1 : ρ[1]? = some (some (wyT c))) : ev F (.ix (.lst (.cons (.c (.int 50)) (.cons (.op .Pow (.c (.int 10)) (.c (.int 18))) (.cons (.op .Pow (.c (.int 10)) (.c (.int 4))) (.cons (.c (.int 200)) .nil))))) (.bi .sum (.cons (.v 1) .nil))) ρ S = some (.int (mostL (ones c)), S) := by
  have four : small 4 = true := rfl
  have z1 : opD .Pow (.int 10) (.int 18) = some (.int 1000000000000000000) := by rw [op_pow (by decide) (by decide) (by decide)]; rfl
  have z2 : opD .Pow (.int 10) (.int 4) = some (.int 10000) := by rw [op_pow (by decide) (by decide) (by decide)]; rfl
  have p1 : ev F (.op .Pow (.c (.int 10)) (.c (.int 18))) ρ S = some (.int 1000000000000000000, S) := by simp only [ev, see_int, z1]
  have p2 : ev F (.op .Pow (.c (.int 10)) (.c (.int 4))) ρ S = some (.int 10000, S) := by simp only [ev, see_int, z2]
  have s1 := ev_lst (evs_cons (F := F) (ρ := ρ) (S := S) (ev_c (d := .int 50)) (evs_cons p1 (evs_cons p2 (evs_cons (ev_c (d := .int 200)) evs_nil)))) four
  have s2 : ev F (.bi .sum (.cons (.v 1) .nil)) ρ S = some (.int (ones c), S) := by
    simp only [ev, evs, h1, seeAll, show see S (wyT c) = some (wyT c) from rfl, sum_wy]
  have z3 : ixD (.lst [.int 50, .int 1000000000000000000, .int 10000, .int 200]) (.int (ones c)) = some (.int (mostL (ones c))) := by
    rcases (show ones c = 0 ∨ ones c = 1 ∨ ones c = 2 ∨ ones c = 3 by omega) with h | h | h | h <;> rw [h] <;> rfl
  have z4 : see S (.lst [.int 50, .int 1000000000000000000, .int 10000, .int 200]) = some (.lst [.int 50, .int 1000000000000000000, .int 10000, .int 200]) := rfl
  rw [ev, s1]
  simp only []
  rw [s2]
  simp only [z4, z3]
theorem rngC {F : CF} {ρ : Iv.Env} {e : E} {m : Nat} {S1 : Sto} (h : ev F e ρ S = some (.int m, S1)) (hm : m ≤ 100000) : ev F (.rng (.c (.int 0)) e) ρ S = some (.lst ((List.range m).map fun (k : Nat) => .int (0 + k)), S1) := by
  have g1 : (decide (-(2 ^ 62) ≤ (0 : Int)) && decide ((0 : Int) < 2 ^ 62) && decide (-(2 ^ 62) ≤ (m : Int)) && decide ((m : Int) < 2 ^ 62)) = true := by
    simp only [Bool.and_eq_true, decide_eq_true_eq]; omega
  have g2 : ((m : Int) - 0).toNat = m := by omega
  rw [ev]
  simp only [ev, h]
  rw [if_pos g1, g2]
theorem pures_terms : ∀ ts : List (List Nat × Nat), D.pures (ts.map termD) = true
  | [] => rfl
  | t :: ts => by
    have e : (t.1.map fun (k : Nat) => D.int k) = (t.1.map fun (k : Nat) => (k : Int)).map D.int := by rw [List.map_map]; rfl
    show ((D.pures (t.1.map fun (k : Nat) => D.int k) && true) && D.pures (ts.map termD)) = true
    rw [e, pures_ints, pures_terms ts]
    rfl
theorem unders_shelf (k : Nat) (t h : Int) : D.unders k (shelf cs t h) = true := by
  show (D.unders k (cs.map D.int) && _) = true
  rw [unders_ints]
  rfl
theorem clo_sh {t h : Int} (hR : closedS (R.length + 1) R = true) : clo (some (shelf cs t h) :: R) := by
  show (D.unders (R.length + 1) (shelf cs t h) && closedS (R.length + 1) R) = true
  rw [unders_shelf, hR]
  rfl
theorem lterms {c : List Bool} (hc : c.length ≤ 3) (hR : closedS (R.length + 1) R = true) {t h : Int} (t0 : 0 ≤ t) (t1 : t + 40 ≤ 1000000) (h0 : 0 ≤ h) :
    ∃ (ts : List (List Nat × Nat)) (t' h' : Int), TsOk c (mostL (ones c)) ts ∧ ts.length ≤ 4 ∧ t ≤ t' ∧ t' ≤ t + 40 ∧ 0 ≤ h' ∧ run T w (n + 3) 22 [.ref 0, wyT c] (some (shelf cs t h) :: R) = some (.lst (ts.map termD), some (shelf cs t' h') :: R) := by
  obtain ⟨r, ta, ha, r1, r2, r3, r4, e1⟩ := draw_nat (w := w) (n := n + 1) (cs := cs) (R := R ++ [some ([] : List D)]) (m := 5) (by decide) (by decide) t0 (by omega) h0
  have hlen : (((List.range r).map fun (k : Nat) => D.int (0 + k)).length : Nat) = r := by rw [List.length_map, List.length_range]
  have ts0 : TsOk c (mostL (ones c)) [] := ⟨fun t ht => absurd ht List.not_mem_nil, fun t ht => absurd ht List.not_mem_nil, Nat.zero_le _⟩
  obtain ⟨ts, tb, hb, b5, b6, b7, b8, b9, q1, q2, q3, q4, q5, e2⟩ := te_loop (w := w) (n := n) (R := R) (cs := cs) (c := c) (most := mostL (ones c)) (a10 := none) hc ((List.range r).map fun (k : Nat) => D.int (0 + k)) [] ta ha none none none none none ts0 (by rw [hlen, List.length_nil]; omega) (by omega) (by rw [hlen]; omega) r4
  rw [hlen] at q2 q4
  refine ⟨ts, tb, hb, q1, by rw [List.length_nil] at q2; omega, by omega, by omega, q5, ?_⟩
  have s1 : ex (run T w (n + 2)) w (.par [2, 3, 4] (.cons (.ix (.lst (.cons (.c (.int 50)) (.cons (.op .Pow (.c (.int 10)) (.c (.int 18))) (.cons (.op .Pow (.c (.int 10)) (.c (.int 4))) (.cons (.c (.int 200)) .nil))))) (.bi .sum (.cons (.v 1) .nil))) (.cons (.new .nil) (.cons (.c (.int 0)) .nil)))) [some (.ref 0), some (wyT c), none, none, none, none, none, none, none, none, none] (some (shelf cs t h) :: R) =
      some (.nx [some (.ref 0), some (wyT c), some (.int (mostL (ones c))), some (.ref (R.length + 1)), some (.int (tot [])), none, none, none, none, none, none], some (shelf cs t h) :: (R ++ [some (([] : List (List Nat × Nat)).map termD)])) := by
    have z := most_ix (F := run T w (n + 2)) (S := some (shelf cs t h) :: R) (c := c) (ρ := [some (.ref 0), some (wyT c), none, none, none, none, none, none, none, none, none]) (Nat.le_trans (ones_le c) hc) rfl
    have z2 : ev (run T w (n + 2)) (.new .nil) [some (.ref 0), some (wyT c), none, none, none, none, none, none, none, none, none] (some (shelf cs t h) :: R) = some (.ref (R.length + 1), some (shelf cs t h) :: (R ++ [some ([] : List D)])) := by
      have zer : small 0 = true := rfl
      simp only [ev, evs, List.length_nil, zer, if_true, mkList, List.length_cons, List.cons_append]
    rw [ex, evs_cons z (evs_cons z2 (evs_cons ev_c evs_nil))]
    rfl
  have s2 : ex (run T w (n + 2)) w (.for (.n 5) (.rng (.c (.int 0)) (.call 18 (.cons (.v 0) (.cons (.c (.int 5)) .nil)))) teB) [some (.ref 0), some (wyT c), some (.int (mostL (ones c))), some (.ref (R.length + 1)), some (.int (tot [])), none, none, none, none, none, none] (some (shelf cs t h) :: (R ++ [some (([] : List (List Nat × Nat)).map termD)])) =
      some (.nx [some (.ref 0), some (wyT c), some (.int (mostL (ones c))), some (.ref (R.length + 1)), some (.int (tot ts)), b5, b6, b7, b8, b9, none], some (shelf cs tb hb) :: (R ++ [some (ts.map termD)])) := by
    have z : ev (run T w (n + 2)) (.call 18 (.cons (.v 0) (.cons (.c (.int 5)) .nil))) [some (.ref 0), some (wyT c), some (.int (mostL (ones c))), some (.ref (R.length + 1)), some (.int (tot [])), none, none, none, none, none, none] (some (shelf cs t h) :: (R ++ [some (([] : List (List Nat × Nat)).map termD)])) = some (.int r, some (shelf cs ta ha) :: (R ++ [some (([] : List (List Nat × Nat)).map termD)])) := by
      simp only [ev, evs, List.getElem?_cons_zero]
      exact e1
    rw [ex, rngC z (by omega)]
    simp only [items]
    exact e2
  have s3 : ex (run T w (n + 2)) w (.ret (.frz 3)) [some (.ref 0), some (wyT c), some (.int (mostL (ones c))), some (.ref (R.length + 1)), some (.int (tot ts)), b5, b6, b7, b8, b9, none] (some (shelf cs tb hb) :: (R ++ [some (ts.map termD)])) = some (.rt (.lst (ts.map termD)), some (shelf cs tb hb) :: (R ++ [none])) := by
    have g := get_last2 (R := R) (x := some (shelf cs tb hb)) (y := some (ts.map termD))
    simp only [ex, ev, List.getElem?_cons_succ, List.getElem?_cons_zero] at g ⊢
    simp only [g, set_last2]
  have e3 : b__law_terms = .cons (.par [2, 3, 4] (.cons (.ix (.lst (.cons (.c (.int 50)) (.cons (.op .Pow (.c (.int 10)) (.c (.int 18))) (.cons (.op .Pow (.c (.int 10)) (.c (.int 4))) (.cons (.c (.int 200)) .nil))))) (.bi .sum (.cons (.v 1) .nil))) (.cons (.new .nil) (.cons (.c (.int 0)) .nil)))) (.cons (.for (.n 5) (.rng (.c (.int 0)) (.call 18 (.cons (.v 0) (.cons (.c (.int 5)) .nil)))) teB) (.cons (.ret (.frz 3)) .nil)) := rfl
  have body : exs (run T w (n + 2)) w b__law_terms [some (.ref 0), some (wyT c), none, none, none, none, none, none, none, none, none] (some (shelf cs t h) :: R) = some (.rt (.lst (ts.map termD)), some (shelf cs tb hb) :: (R ++ [none])) := by
    rw [e3, exs, s1]
    simp only []
    rw [exs, s2]
    simp only []
    rw [exs, s3]
  rw [run_rt t22 rfl body]
  have hl : leave (some (shelf cs t h) :: R).length (.lst (ts.map termD)) (some (shelf cs tb hb) :: (R ++ [none])) = some (shelf cs tb hb) :: R := by
    have tk : (some (shelf cs tb hb) :: (R ++ [none])).take (some (shelf cs t h) :: R).length = some (shelf cs tb hb) :: R := by
      rw [List.length_cons, List.take_succ_cons, List.take_left]
    have c1 := clo_sh (cs := cs) (t := tb) (h := hb) hR
    unfold clo at c1
    unfold leave
    rw [tk, show D.pure (.lst (ts.map termD)) = true from pures_terms ts, show (some (shelf cs t h) :: R).length = (some (shelf cs tb hb) :: R).length from rfl, c1]
    rfl
  rw [hl]
end Lk51

set_option Elab.async false
set_option linter.all false
set_option maxRecDepth 512
set_option maxHeartbeats 4000000
namespace Lk51
open PySem Iv
variable {w n : Nat} {S R : Sto} {cs : List Int}
theorem ne_lst (a : List Int) : cmpD .NotEq (.lst (a.map D.int)) (.lst (a.map D.int)) = some false := by
  show (if _ then _ else _) = _
  rw [if_pos (by rw [ok_ints]; rfl)]
  simp only [D.eqv, D.py, pys_ints, PyData.eqv, eqvAll_ints, decide_true, Bool.not_true]
theorem is_numbers (q : List Int) (hq : q.length ≤ 1000) : run T w (n + 1) 26 [.tup (q.map D.int), .tup (q.map D.int)] S = some (.bl true, S) := by
  have z1 : see S (.tup (q.map D.int)) = some (.tup (q.map D.int)) := rfl
  have z2 : see S (.lst (q.map D.int)) = some (.lst (q.map D.int)) := rfl
  have s1 : ev (run T w n) (.or (.not (.isi (.v 0) [.tuple])) (.cmp .NotEq (.bi .list (.cons (.v 0) .nil)) (.bi .list (.cons (.v 1) .nil)))) [some (.tup (q.map D.int)), some (.tup (q.map D.int)), none] S = some (.bl false, S) := by
    have g : [Ty.tuple].any (isTy (.tup (q.map D.int))) = true := rfl
    simp only [ev, evs, List.getElem?_cons_succ, List.getElem?_cons_zero, z1, g, Bool.not_true, seeAll, biD, z2, ne_lst]
  have s2 : ev (run T w n) (.compI false (.n 2) (.v 0) (.or (.isi (.v 2) [.bool]) (.not (.isi (.v 2) [.int]))) (.v 2)) [some (.tup (q.map D.int)), some (.tup (q.map D.int)), none] S = some (.lst ((q.map D.int).filter fun _ => false), S) :=
    ev_filter (x := .tup (q.map D.int)) (p := fun _ => false) (by simp only [ev, List.getElem?_cons_zero]) rfl (by simp) (fun d hd => by
      obtain ⟨i, _, rfl⟩ := List.mem_map.mp hd
      have g1 : [Ty.bool].any (isTy (.int i)) = false := rfl
      have g2 : [Ty.int].any (isTy (.int i)) = true := rfl
      simp only [ev, List.set_cons_succ, List.set_cons_zero, List.getElem?_cons_succ, List.getElem?_cons_zero, see_int, g1, g2, Bool.not_true]) (by rw [List.length_map]; omega)
  have z3 : ((q.map D.int).filter fun _ => false) = [] := List.filter_eq_nil_iff.mpr fun _ _ => by simp
  rw [z3] at s2
  have s3 : ev (run T w n) (.lst .nil) [some (.tup (q.map D.int)), some (.tup (q.map D.int)), none] S = some (.lst [], S) := ev_lst evs_nil rfl
  have z4 : cmpD .Eq (.lst []) (.lst []) = some true := cmp_nil []
  have z5 : see S (.lst []) = some (.lst []) := rfl
  refine run_rts t26 rfl rfl ?_
  show exs _ _ b__law_is_numbers [some (.tup (q.map D.int)), some (.tup (q.map D.int)), none] S = _
  rw [b__law_is_numbers, exs, ex, s1]
  simp only [exs]
  rw [ex, ev, s2]
  simp only []
  rw [s3]
  simp only [z5, z4]
def gaA : St := (.ex (.meth .append (.v 4) (.cons (.v 10) .nil)))
def gaB : St := (.ex (.meth .append (.v 5) (.cons (.tup (.cons (.ite (.cmp .Eq (.call 18 (.cons (.v 1) (.cons (.c (.int 2)) .nil))) (.c (.int 0))) (.bi .list (.cons (.v 10) .nil)) (.v 10)) (.cons (.call 23 (.cons (.v 9) (.cons (.v 10) .nil))) .nil))) .nil)))
def gaT : Ss := (.cons gaA (.cons gaB .nil))
theorem ga_A {F : CF} {ρ : Iv.Env} {r : Nat} {xs : List D} {d : D} (h4 : ρ[4]? = some (some (.ref r))) (h10 : ρ[10]? = some (some d)) (hr : S[r]? = some (some xs)) (hl : xs.length ≤ 1000) : ex F w gaA ρ S = some (.nx ρ, S.set r (some (xs ++ [d]))) := by
  have z : see S (.ref r) = some (.lst xs) := by simp only [see, hr]
  have sm : small (xs.length + 1) = true := decide_eq_true (by omega)
  simp only [gaA, ex, ev, evs, h4, z, Option.isSome, if_true, h10, meD, hr, sm]
theorem ga_B {F : CF} {ρ : Iv.Env} {r rr u : Nat} {xs : List D} {q : List Int} {te : D} {S1 : Sto} (h1 : ρ[1]? = some (some (.ref 0))) (h5 : ρ[5]? = some (some (.ref r))) (h9 : ρ[9]? = some (some te)) (h10 : ρ[10]? = some (some (.tup (q.map D.int))))
    (e1 : F 18 [.ref 0, .int 2] S = some (.int rr, S1)) (e2 : F 23 [te, .tup (q.map D.int)] S1 = some (.int u, S1)) (hr : S[r]? = some (some xs)) (hr1 : S1[r]? = some (some xs)) (hl : xs.length ≤ 1000) :
    ex F w gaB ρ S = some (.nx ρ, S1.set r (some (xs ++ [ansF true (!decide (rr = 0), q, (u : Int))]))) := by
  have z : see S (.ref r) = some (.lst xs) := by simp only [see, hr]
  have sm : small (xs.length + 1) = true := decide_eq_true (by omega)
  have two : small 2 = true := rfl
  have z0 : decide ((rr : Int) = 0) = decide (rr = 0) := by rw [decide_eq_decide]; omega
  have z1 : see S1 (.tup (q.map D.int)) = some (.tup (q.map D.int)) := rfl
  have s1 : ev F (.ite (.cmp .Eq (.call 18 (.cons (.v 1) (.cons (.c (.int 2)) .nil))) (.c (.int 0))) (.bi .list (.cons (.v 10) .nil)) (.v 10)) ρ S = some (row (!decide (rr = 0)) q, S1) := by
    have s0 : ev F (.cmp .Eq (.call 18 (.cons (.v 1) (.cons (.c (.int 2)) .nil))) (.c (.int 0))) ρ S = some (.bl (decide (rr = 0)), S1) := by
      simp only [ev, evs, h1, e1, see_int, cmpD, z0]
    rw [ev, s0]
    cases decide (rr = 0)
    · simp only [ev, h10]; rfl
    · simp only [ev, evs, h10, seeAll, z1, biD]; rfl
  have s2 : ev F (.call 23 (.cons (.v 9) (.cons (.v 10) .nil))) ρ S1 = some (.int u, S1) := by
    simp only [ev, evs, h9, h10, e2]
  have s3 : ev F (.tup (.cons (.ite (.cmp .Eq (.call 18 (.cons (.v 1) (.cons (.c (.int 2)) .nil))) (.c (.int 0))) (.bi .list (.cons (.v 10) .nil)) (.v 10)) (.cons (.call 23 (.cons (.v 9) (.cons (.v 10) .nil))) .nil))) ρ S = some (ansF true (!decide (rr = 0), q, (u : Int)), S1) := by
    rw [ev, evs_cons s1 (evs_cons s2 evs_nil)]
    rfl
  have s4 : ev F (.v 5) ρ S = some (.ref r, S) := by simp only [ev, h5]
  rw [gaB, ex, ev, s4]
  simp only [z, Option.isSome, if_true]
  rw [evs_cons s3 evs_nil]
  simp only [meD, hr1, sm, if_true]
/-- the places of a turn -/
def St3 (cs : List Int) (R : Sto) (t h : Int) (As Bs : List D) : Sto := some (shelf cs t h) :: (R ++ [some As, some Bs])
theorem st3_a {t h : Int} {As Bs : List D} : (St3 cs R t h As Bs)[R.length + 1]? = some (some As) := by
  unfold St3
  rw [List.getElem?_cons_succ, List.getElem?_append_right (Nat.le_refl _), Nat.sub_self]
  rfl
theorem st3_b {t h : Int} {As Bs : List D} : (St3 cs R t h As Bs)[R.length + 2]? = some (some Bs) := by
  unfold St3
  rw [List.getElem?_cons_succ, List.getElem?_append_right (Nat.le_succ _), show R.length + 1 - R.length = 1 by omega]
  rfl
theorem st3_sa {t h : Int} {As Bs X : List D} : (St3 cs R t h As Bs).set (R.length + 1) (some X) = St3 cs R t h X Bs := by
  unfold St3
  rw [List.set_cons_succ, List.set_append_right _ _ (Nat.le_refl _), Nat.sub_self]
  rfl
theorem st3_sb {t h : Int} {As Bs X : List D} : (St3 cs R t h As Bs).set (R.length + 2) (some X) = St3 cs R t h As X := by
  unfold St3
  rw [List.set_cons_succ, List.set_append_right _ _ (Nat.le_succ _), show R.length + 1 - R.length = 1 by omega]
  rfl
def askD (p : List Int × Int) : D := .tup (p.1.map D.int)
/-- what a law's turn has in its names -/
def envL (v0 v2 v3 : Option D) (ra rb : Nat) (v6 v7 v8 v9 v10 v11 v12 : Option D) : Iv.Env := [v0, some (.ref 0), v2, v3, some (.ref ra), some (.ref rb), v6, v7, v8, v9, v10, v11, v12]
theorem ga_turn {v0 v2 v3 v6 v7 v8 v11 v12 : Option D} {ts : List (List Nat × Nat)} {qs : List Nat} {q : List Int} {As : List D} {B : List (Bool × List Int × Int)} {t h : Int} (hqq : natsT qs = .tup (q.map D.int)) (hk : qs.length ≤ 3) (hq : ∀ q ∈ qs, q ≤ 2 ^ bq) (hts : ∀ t ∈ ts, TermOk qs.length t)
    (hA : As.length ≤ 1000) (hB : B.length ≤ 1000) (t0 : 0 ≤ t) (t1 : t ≤ 1000000) (h0 : 0 ≤ h) :
    ∃ (fl : Bool) (t' h' : Int), t ≤ t' ∧ t' ≤ t + 1 ∧ 0 ≤ h' ∧ exs (run T w (n + 2)) w gaT (envL v0 v2 v3 (R.length + 1) (R.length + 2) v6 v7 v8 (some (.lst (ts.map termD))) (some (.tup (q.map D.int))) v11 v12) (St3 cs R t h As (B.map (ansF true))) =
      some (.nx (envL v0 v2 v3 (R.length + 1) (R.length + 2) v6 v7 v8 (some (.lst (ts.map termD))) (some (.tup (q.map D.int))) v11 v12), St3 cs R t' h' (As ++ [.tup (q.map D.int)]) ((B ++ [(fl, q, ((worthF 0 ts qs : Nat) : Int))]).map (ansF true))) := by
  obtain ⟨r, ta, ha, r1, r2, r3, r4, e1⟩ := draw_nat (w := w) (n := n + 1) (cs := cs) (R := R ++ [some (As ++ [.tup (q.map D.int)]), some (B.map (ansF true))]) (m := 2) (by decide) (by decide) t0 t1 h0
  have e2 := lworth (w := w) (n := n) (S := St3 cs R ta ha (As ++ [.tup (q.map D.int)]) (B.map (ansF true))) hk hq hts
  rw [hqq] at e2
  have s1 := ga_A (F := run T w (n + 2)) (w := w) (S := St3 cs R t h As (B.map (ansF true))) (ρ := envL v0 v2 v3 (R.length + 1) (R.length + 2) v6 v7 v8 (some (.lst (ts.map termD))) (some (.tup (q.map D.int))) v11 v12) rfl rfl st3_a hA
  rw [st3_sa] at s1
  have e1' : run T w (n + 2) 18 [.ref 0, .int 2] (St3 cs R t h (As ++ [.tup (q.map D.int)]) (B.map (ansF true))) = some (.int r, St3 cs R ta ha (As ++ [.tup (q.map D.int)]) (B.map (ansF true))) := e1
  have s2 := ga_B (F := run T w (n + 2)) (w := w) (rr := r) (u := worthF 0 ts qs) (q := q) (xs := B.map (ansF true)) (te := .lst (ts.map termD)) (S := St3 cs R t h (As ++ [.tup (q.map D.int)]) (B.map (ansF true))) (S1 := St3 cs R ta ha (As ++ [.tup (q.map D.int)]) (B.map (ansF true))) (ρ := envL v0 v2 v3 (R.length + 1) (R.length + 2) v6 v7 v8 (some (.lst (ts.map termD))) (some (.tup (q.map D.int))) v11 v12) rfl rfl rfl rfl e1' e2 st3_b st3_b (by rw [List.length_map]; exact hB)
  rw [st3_sb] at s2
  refine ⟨!decide (r = 0), ta, ha, r2, r3, r4, ?_⟩
  rw [gaT, exs, s1]
  simp only []
  rw [exs, s2]
  simp only [exs]
  rw [List.map_append]
  rfl
end Lk51

set_option Elab.async false
set_option linter.all false
set_option maxRecDepth 512
set_option maxHeartbeats 4000000
namespace Lk51
open PySem Iv
variable {w n : Nat} {S R : Sto} {cs : List Int}
abbrev Ans := Bool × List Int × Int
def St4 (cs : List Int) (R : Sto) (t h : Int) (B : List Ans) : Sto := St3 cs R t h ((B.map (·.2)).map askD) (B.map (ansF true))
theorem unders_asks (k : Nat) : ∀ P : List (List Int × Int), D.unders k (P.map askD) = true
  | [] => rfl
  | p :: P => by
    show (D.unders k (p.1.map D.int) && D.unders k (P.map askD)) = true
    rw [unders_ints, unders_asks k P]
    rfl
theorem under_row (k : Nat) (t : Bool) (q : List Int) : D.under k (row t q) = true := by
  cases t
  · exact unders_ints k q
  · exact unders_ints k q
theorem unders_ans (k : Nat) : ∀ B : List Ans, D.unders k (B.map (ansF true)) = true
  | [] => rfl
  | b :: B => by
    show ((D.under k (row b.1 b.2.1) && true) && D.unders k (B.map (ansF true))) = true
    rw [under_row, unders_ans k B]
    rfl
theorem closed_app {k : Nat} {A B : Sto} (h1 : closedS k A = true) (h2 : closedS k B = true) : closedS k (A ++ B) = true := by
  unfold closedS at *
  rw [List.all_append, h1, h2]
  rfl
theorem closed3 (hR : closedS (R.length + 1) R = true) (B : List Ans) : closedS ((R ++ [some ((B.map (·.2)).map askD), some (B.map (ansF true))]).length + 1) (R ++ [some ((B.map (·.2)).map askD), some (B.map (ansF true))]) = true := by
  refine closed_app (closed_mono ?_ hR) ?_
  · rw [List.length_append]; omega
  · show (D.unders _ _ && (D.unders _ _ && true)) = true
    rw [unders_asks, unders_ans]
    rfl
theorem clo4 (hR : closedS (R.length + 1) R = true) {t h : Int} (B : List Ans) : clo (St4 cs R t h B) := clo_sh (closed3 hR B)
section
variable {v0 v2 v3 v6 v7 v8 v11 v12 : Option D}
/-- the asks of one choice -/
theorem ask_all {c : List Bool} {ts : List (List Nat × Nat)} {B : List Ans} {t h : Int} (v10 : Option D) (hc : c.length ≤ 3) (hts : TsOk c (mostL (ones c)) ts) (hB : B.length + 2 ≤ 1000) (t0 : 0 ≤ t) (t1 : t + 2 ≤ 1000000) (h0 : 0 ≤ h) :
    ∃ (A : List Ans) (t' h' : Int) (b10 : Option D), A.map (·.2) = (infOf c ts).fl ∧ t ≤ t' ∧ t' ≤ t + 2 ∧ 0 ≤ h' ∧
      forRun (.n 10) (fun ρ S => exs (run T w (n + 2)) w gaT ρ S) ((infOf c ts).fl.map askD) (envL v0 v2 v3 (R.length + 1) (R.length + 2) v6 v7 v8 (some (.lst (ts.map termD))) v10 v11 v12) (St4 cs R t h B) =
        some (.nx (envL v0 v2 v3 (R.length + 1) (R.length + 2) v6 v7 v8 (some (.lst (ts.map termD))) b10 v11 v12), St4 cs R t' h' (B ++ A)) := by
  have step : ∀ (qs : List Nat) (q : List Int) (B : List Ans) (t h : Int) (v10 : Option D), natsT qs = .tup (q.map D.int) → qs.length = c.length → (∀ q ∈ qs, q ≤ 2 ^ bq) → B.length ≤ 1000 → 0 ≤ t → t ≤ 1000000 → 0 ≤ h →
      ∃ (fl : Bool) (t' h' : Int), t ≤ t' ∧ t' ≤ t + 1 ∧ 0 ≤ h' ∧ ∀ ds, forRun (.n 10) (fun ρ S => exs (run T w (n + 2)) w gaT ρ S) (.tup (q.map D.int) :: ds) (envL v0 v2 v3 (R.length + 1) (R.length + 2) v6 v7 v8 (some (.lst (ts.map termD))) v10 v11 v12) (St4 cs R t h B) =
        forRun (.n 10) (fun ρ S => exs (run T w (n + 2)) w gaT ρ S) ds (envL v0 v2 v3 (R.length + 1) (R.length + 2) v6 v7 v8 (some (.lst (ts.map termD))) (some (.tup (q.map D.int))) v11 v12) (St4 cs R t' h' (B ++ [(fl, q, ((worthF 0 ts qs : Nat) : Int))])) := by
    intro qs q B t h v10 hqq hl hq hB t0 t1 h0
    obtain ⟨fl, t', h', o1, o2, o3, e⟩ := ga_turn (w := w) (n := n) (cs := cs) (R := R) (v0 := v0) (v2 := v2) (v3 := v3) (v6 := v6) (v7 := v7) (v8 := v8) (v11 := v11) (v12 := v12) (ts := ts) (As := (B.map (·.2)).map askD) (B := B) hqq (by omega) hq (fun x hx => by rw [hl]; exact hts.t x hx) (by rw [List.length_map, List.length_map]; exact hB) hB t0 t1 h0
    refine ⟨fl, t', h', o1, o2, o3, fun ds => ?_⟩
    refine forRun_nx rfl (e.trans ?_)
    have : (B.map (·.2)).map askD ++ [D.tup (q.map D.int)] = ((B ++ [(fl, q, ((worthF 0 ts qs : Nat) : Int))]).map (·.2)).map askD := by
      rw [List.map_append, List.map_append]
      rfl
    rw [this]
    rfl
  obtain ⟨f1, ta, ha, o1, o2, o3, e1⟩ := step (firstN c) (firstQ c) B t h v10 (first_nats c) (first_len c) (first_b c) (by omega) t0 (by omega) h0
  have ho := Nat.le_trans (ones_le c) hc
  have hv := worth_first c ts 0 hts.o
  rw [Nat.zero_add] at hv
  cases hb : (infOf c ts).two with
  | false =>
    have ef : (infOf c ts).fl = [(firstQ c, ((worthF 0 ts (firstN c) : Nat) : Int))] := by
      unfold Inf.fl
      rw [hb]
      rfl
    rw [ef]
    exact ⟨[(f1, firstQ c, ((worthF 0 ts (firstN c) : Nat) : Int))], ta, ha, _, rfl, o1, by omega, o3, e1 []⟩
  | true =>
    have ef : (infOf c ts).fl = [(firstQ c, ((worthF 0 ts (firstN c) : Nat) : Int)), (secQ (worthF 0 ts (firstN c)) (nb (worthF 0 ts (firstN c))) c 1, ((worthF 0 ts (secN (worthF 0 ts (firstN c)) (nb (worthF 0 ts (firstN c))) c 1) : Nat) : Int))] := by
      unfold Inf.fl
      rw [hb]
      rfl
    have hb2 := hb
    unfold Inf.two at hb2
    rw [Bool.and_eq_true, decide_eq_true_eq, decide_eq_true_eq] at hb2
    have hb3 : ones c ≠ 0 ∧ 2 ≤ worthF 0 ts (firstN c) := hb2
    have hle : worthF 0 ts (firstN c) ≤ mosts (ones c) := by
      rw [hv, ← (mostL_eq _ ho).resolve_left hb3.1]
      exact hts.m
    have hv1 : 1 ≤ worthF 0 ts (firstN c) := Nat.le_trans (by decide) hb3.2
    rw [ef]
    generalize worthF 0 ts (firstN c) = v at e1 hb3 hle hv1 ⊢
    obtain ⟨f2, tb, hb', p1, p2, p3, e2⟩ := step (secN v (nb v) c 1) (secQ v (nb v) c 1) (B ++ [(f1, firstQ c, (v : Int))]) ta ha (some (.tup ((firstQ c).map D.int))) (sec_nats v (nb v) c 1) (sec_len v (nb v) c 1) (sec_b hv1 c 1 (by rw [Nat.one_mul]; exact nbk hv1 ho hb3.1 hle)) (by rw [List.length_append]; simp only [List.length_cons, List.length_nil]; omega) (by omega) (by omega) o3
    refine ⟨[(f1, firstQ c, (v : Int)), (f2, secQ v (nb v) c 1, ((worthF 0 ts (secN v (nb v) c 1) : Nat) : Int))], tb, hb', some (.tup ((secQ v (nb v) c 1).map D.int)), rfl, by omega, by omega, p3, ?_⟩
    have ea : B ++ [(f1, firstQ c, (v : Int)), (f2, secQ v (nb v) c 1, ((worthF 0 ts (secN v (nb v) c 1) : Nat) : Int))] = (B ++ [(f1, firstQ c, (v : Int))]) ++ [(f2, secQ v (nb v) c 1, ((worthF 0 ts (secN v (nb v) c 1) : Nat) : Int))] := by rw [List.append_assoc]; rfl
    rw [ea]
    exact (e1 _).trans (e2 [])
end
theorem inf_ok {m : Nat} {c : List Bool} {ts : List (List Nat × Nat)} (hl : c.length = m) (hm : m ≤ 3) (hts : TsOk c (mostL (ones c)) ts) : InfOk m (infOf c ts) := by
  refine ⟨hl, ?_⟩
  have ho : ones c ≤ 3 := by have := ones_le c; omega
  rcases mostL_eq _ ho with h | h
  · exact .inl h
  · have hv := worth_first c ts 0 hts.o
    rw [Nat.zero_add] at hv
    refine .inr ?_
    show worthF 0 ts (firstN c) ≤ mosts (ones c)
    rw [hv, ← h]
    exact hts.m
def coT : Ss := (.cons (.asg (.n 9) (.call 22 (.cons (.v 1) (.cons (.v 6) .nil)))) (.cons (.for (.n 10) (.call 25 (.cons (.v 6) (.cons (.v 9) .nil))) gaT) .nil))
section
variable {v0 v2 v3 v7 v8 v11 v12 : Option D}
theorem co_turn {c : List Bool} {B : List Ans} {t h : Int} {v9 v10 : Option D} (hw : 100 ≤ w) (hc : c.length ≤ 3) (hR : closedS (R.length + 1) R = true) (hB : B.length + 2 ≤ 1000) (t0 : 0 ≤ t) (t1 : t + 42 ≤ 1000000) (h0 : 0 ≤ h) :
    ∃ (i : Inf) (A : List Ans) (t' h' : Int) (b9 b10 : Option D), i.c = c ∧ InfOk c.length i ∧ A.map (·.2) = i.fl ∧ t ≤ t' ∧ t' ≤ t + 42 ∧ 0 ≤ h' ∧
      exs (run T w (n + 3)) w coT (envL v0 v2 v3 (R.length + 1) (R.length + 2) (some (wyT c)) v7 v8 v9 v10 v11 v12) (St4 cs R t h B) =
        some (.nx (envL v0 v2 v3 (R.length + 1) (R.length + 2) (some (wyT c)) v7 v8 b9 b10 v11 v12), St4 cs R t' h' (B ++ A)) := by
  obtain ⟨ts, ta, ha, q1, _, q3, q4, q5, e1⟩ := lterms (w := w) (n := n) (cs := cs) (R := R ++ [some ((B.map (·.2)).map askD), some (B.map (ansF true))]) hc (closed3 hR B) t0 (by omega) h0
  have e1' : run T w (n + 3) 22 [.ref 0, wyT c] (St4 cs R t h B) = some (.lst (ts.map termD), St4 cs R ta ha B) := e1
  have ho : ones c ≤ 3 := Nat.le_trans (ones_le c) hc
  have hok := inf_ok (m := c.length) rfl hc q1
  have e2 := lasks (w := w) (n := n) (S := St4 cs R ta ha B) (c := c) (ts := ts) hw (clo4 hR B) hc q1.t hok.le
  obtain ⟨A, tb, hb, b10, p1, p2, p3, p4, e3⟩ := ask_all (w := w) (n := n + 1) (cs := cs) (R := R) (v0 := v0) (v2 := v2) (v3 := v3) (v6 := some (wyT c)) (v7 := v7) (v8 := v8) (v11 := v11) (v12 := v12) (c := c) (ts := ts) (B := B) (t := ta) (h := ha) v10 hc q1 hB (by omega) (by omega) q5
  refine ⟨infOf c ts, A, tb, hb, some (.lst (ts.map termD)), b10, rfl, hok, p1, by omega, by omega, p4, ?_⟩
  have s1 : ex (run T w (n + 3)) w (.asg (.n 9) (.call 22 (.cons (.v 1) (.cons (.v 6) .nil)))) (envL v0 v2 v3 (R.length + 1) (R.length + 2) (some (wyT c)) v7 v8 v9 v10 v11 v12) (St4 cs R t h B) = some (.nx (envL v0 v2 v3 (R.length + 1) (R.length + 2) (some (wyT c)) v7 v8 (some (.lst (ts.map termD))) v10 v11 v12), St4 cs R ta ha B) := by
    simp only [envL, ex, ev, evs, List.getElem?_cons_succ, List.getElem?_cons_zero, e1', setT, List.set_cons_succ, List.set_cons_zero]
  have z : ev (run T w (n + 3)) (.call 25 (.cons (.v 6) (.cons (.v 9) .nil))) (envL v0 v2 v3 (R.length + 1) (R.length + 2) (some (wyT c)) v7 v8 (some (.lst (ts.map termD))) v10 v11 v12) (St4 cs R ta ha B) = some (.lst ((infOf c ts).fl.map askD), St4 cs R ta ha B) := by
    have e2' : run T w (n + 3) 25 [wyT c, .lst (ts.map termD)] (St4 cs R ta ha B) = some (.lst ((infOf c ts).fl.map askD), St4 cs R ta ha B) := e2
    simp only [envL, ev, evs, List.getElem?_cons_succ, List.getElem?_cons_zero, e2']
  rw [coT, exs, s1]
  simp only []
  rw [exs, ex, z]
  simp only [items]
  rw [e3]
  simp only [exs]
theorem co_loop (hw : 100 ≤ w) (hR : closedS (R.length + 1) R = true) {m : Nat} (hm : m ≤ 3) : ∀ (cl : List (List Bool)) (B : List Ans) (t h : Int) (v6 v9 v10 : Option D), (∀ c ∈ cl, c.length = m) → B.length + 2 * cl.length ≤ 900 → 0 ≤ t → t + 42 * cl.length ≤ 1000000 → 0 ≤ h →
    ∃ (is : List Inf) (A : List Ans) (t' h' : Int) (b6 b9 b10 : Option D), is.map Inf.c = cl ∧ (∀ i ∈ is, InfOk m i) ∧ A.map (·.2) = fl is ∧ t ≤ t' ∧ t' ≤ t + 42 * cl.length ∧ 0 ≤ h' ∧
      forRun (.n 6) (fun ρ S => exs (run T w (n + 3)) w coT ρ S) (cl.map wyT) (envL v0 v2 v3 (R.length + 1) (R.length + 2) v6 v7 v8 v9 v10 v11 v12) (St4 cs R t h B) =
        some (.nx (envL v0 v2 v3 (R.length + 1) (R.length + 2) b6 v7 v8 b9 b10 v11 v12), St4 cs R t' h' (B ++ A))
  | [], B, t, h, v6, v9, v10, _, _, _, _, h0 => ⟨[], [], t, h, v6, v9, v10, rfl, (fun i hi => absurd hi List.not_mem_nil), rfl, Int.le_refl _, (by simp), h0, (by rw [List.append_nil]; rfl)⟩
  | c :: cl, B, t, h, v6, v9, v10, hcl, hB, t0, t1, h0 => by
    rw [List.length_cons] at hB
    have hl2 : (((c :: cl).length : Nat) : Int) = (cl.length : Int) + 1 := by rw [List.length_cons]; omega
    rw [hl2] at t1
    have hc := hcl c List.mem_cons_self
    obtain ⟨i, A, ta, ha, b9, b10, o1, o2, o3, o4, o5, o6, e⟩ := co_turn (w := w) (n := n) (cs := cs) (R := R) (v0 := v0) (v2 := v2) (v3 := v3) (v7 := v7) (v8 := v8) (v11 := v11) (v12 := v12) (c := c) (B := B) (t := t) (h := h) (v9 := v9) (v10 := v10) hw (by omega) hR (by omega) t0 (by omega) h0
    have hA : A.length ≤ 2 := by
      have : (A.map (·.2)).length = i.fl.length := by rw [o3]
      rw [List.length_map] at this
      rw [this]
      unfold Inf.fl
      cases i.two
      · exact Nat.le_succ 1
      · exact Nat.le_refl 2
    obtain ⟨is, A2, tb, hb, b6, c9, c10, p1, p2, p3, p4, p5, p6, ih⟩ := co_loop hw hR hm cl (B ++ A) ta ha (some (wyT c)) b9 b10 (fun d hd => hcl d (List.mem_cons_of_mem _ hd)) (by rw [List.length_append]; omega) (by omega) (by omega) o6
    refine ⟨i :: is, A ++ A2, tb, hb, b6, c9, c10, by rw [List.map_cons, o1, p1], fun j hj => ?_, by rw [List.map_append, o3, p3, fl, fl, List.flatMap_cons], by omega, by rw [hl2]; omega, p6, ?_⟩
    · rcases List.mem_cons.mp hj with rfl | hj
      · rw [← hc]; exact o2
      · exact p2 j hj
    · rw [List.map_cons, ← List.append_assoc]
      exact (forRun_nx rfl e).trans ih
end
end Lk51

set_option Elab.async false
set_option linter.all false
set_option maxRecDepth 512
set_option maxHeartbeats 4000000
namespace Lk51
open PySem Iv
variable {w n : Nat} {S R : Sto} {cs : List Int}
def cntS : St := (.ifs (.cmp .Gt (.bi .len (.cons (.v 4) .nil)) (.op .Sub (.op .Mult (.c (.int 2)) (.call 20 (.cons (.c (.int 2)) (.cons (.v 3) .nil)))) (.c (.int 1)))) (.cons (.ret (.c (.bl false))) .nil) .nil)
theorem cnt_ok {F : CF} {ρ : Iv.Env} {r m q : Nat} {xs : List D} (h3 : ρ[3]? = some (some (.int m))) (h4 : ρ[4]? = some (some (.ref r))) (hr : S[r]? = some (some xs)) (e : F 20 [.int 2, .int m] S = some (.int (q : Nat), S)) (hl : xs.length + 1 ≤ 2 * q) : ex F w cntS ρ S = some (.nx ρ, S) := by
  have z : see S (.ref r) = some (.lst xs) := by simp only [see, hr]
  have z1 : opD .Mult (.int 2) (.int (q : Int)) = some (.int (2 * (q : Int))) := op_mul (by decide)
  have z2 : cmpD .Gt (.int (xs.length : Int)) (.int (2 * (q : Int) - 1)) = some false := by
    show some (decide _) = _
    rw [decide_eq_false (by omega)]
  have s1 : ev F (.cmp .Gt (.bi .len (.cons (.v 4) .nil)) (.op .Sub (.op .Mult (.c (.int 2)) (.call 20 (.cons (.c (.int 2)) (.cons (.v 3) .nil)))) (.c (.int 1)))) ρ S = some (.bl false, S) := by
    simp only [ev, evs, h3, h4, seeAll, z, len_lst, e, see_int, z1, op_sub, z2]
  rw [cntS, ex, s1]
  simp only [exs]
theorem fl_len {m : Nat} (hm : m ≤ 3) {is : List Inf} (hC : is.map Inf.c = chs m) : (fl is).length + 1 ≤ 2 * 2 ^ m := by
  have le2 : ∀ l : List Inf, (fl l).length ≤ 2 * l.length := fun l => by
    induction l with
    | nil => exact Nat.le_refl _
    | cons i l ih =>
      rw [fl, List.flatMap_cons, List.length_append, List.length_cons]
      have : i.fl.length ≤ 2 := by
        unfold Inf.fl
        cases i.two
        · exact Nat.le_succ 1
        · exact Nat.le_refl 2
      have ih' : (List.flatMap Inf.fl l).length ≤ 2 * l.length := ih
      omega
  cases is with
  | nil =>
    have z := chs_len m
    rw [← hC] at z
    have := Nat.two_pow_pos m
    simp only [List.map_nil, List.length_nil] at z
    omega
  | cons i is =>
    have h0 : (chs m)[0]?.map ones = some 0 := by
      rcases (show m = 0 ∨ m = 1 ∨ m = 2 ∨ m = 3 by omega) with rfl | rfl | rfl | rfl <;> decide
    rw [← hC] at h0
    have h1 : ones i.c = 0 := by simpa using h0
    have h2 : i.fl.length = 1 := by
      have : i.two = false := by
        unfold Inf.two
        rw [decide_eq_false (fun h => h h1)]
        rfl
      unfold Inf.fl
      rw [this]
      rfl
    have h3 : (i :: is).length = 2 ^ m := by rw [← chs_len m, ← hC, List.length_map]
    rw [List.length_cons] at h3
    have h4 := le2 is
    have h5 : (fl (i :: is)).length = i.fl.length + (fl is).length := by rw [fl, List.flatMap_cons, List.length_append]; rfl
    omega
def keepE : E := .comp false (.t [10, 11]) (.v 5) (.tup (.cons (.bi .tuple (.cons (.v 10) .nil)) (.cons (.v 11) .nil)))
def keepD (b : Ans) : D := .tup [.tup (b.2.1.map D.int), .int b.2.2]
def keepG : D → D
  | .tup [.lst ds, x] => .tup [.tup ds, x]
  | .tup [.tup ds, x] => .tup [.tup ds, x]
  | _ => .non
theorem keepG_ans (b : Ans) : keepG (ansF true b) = keepD b := by
  obtain ⟨t, q, x⟩ := b
  cases t <;> rfl
theorem keep_ev {F : CF} {B : List Ans} {a0 a1 a2 a3 a4 a6 a7 a8 a9 a10 a11 a12 : Option D} (hB : B.length ≤ 1000) : ev F keepE [a0, a1, a2, a3, a4, some (.lst (B.map (ansF true))), a6, a7, a8, a9, a10, a11, a12] S = some (.lst (B.map keepD), S) := by
  have two : small 2 = true := rfl
  have e := ev_comp (F := F) (S := S) (S1 := S) (t := .t [10, 11]) (it := .v 5) (elt := .tup (.cons (.bi .tuple (.cons (.v 10) .nil)) (.cons (.v 11) .nil))) (ρ := [a0, a1, a2, a3, a4, some (.lst (B.map (ansF true))), a6, a7, a8, a9, a10, a11, a12]) (x := .lst (B.map (ansF true))) (g := keepG) (by simp only [ev, List.getElem?_cons_succ, List.getElem?_cons_zero]) rfl (fun d hd => by
    obtain ⟨b, _, rfl⟩ := List.mem_map.mp hd
    refine ⟨[a0, a1, a2, a3, a4, some (.lst (B.map (ansF true))), a6, a7, a8, a9, some (row b.1 b.2.1), some (.int b.2.2), a12], rfl, ?_⟩
    rw [keepG_ans]
    simp only [ev, evs, List.getElem?_cons_succ, List.getElem?_cons_zero, seeAll, see_row, tup_row, List.length_cons, List.length_nil, Nat.zero_add, Nat.reduceAdd, two, if_true]
    rfl) (by rw [List.length_map]; omega)
  rw [List.map_map] at e
  have : keepG ∘ ansF true = keepD := by funext b; exact keepG_ans b
  rw [this] at e
  exact e
theorem keep_ne (B : List Ans) : cmpD .NotEq (.lst (B.map keepD)) (.lst (B.map keepD)) = some false := by
  have e1 : D.pures (B.map keepD) = true ∧ PyData.canLayAll0 (D.pys (B.map keepD)) = true ∧ PyData.depthAll (D.pys (B.map keepD)) ≤ 2 ∧ PyData.eqvAll (D.pys (B.map keepD)) (D.pys (B.map keepD)) = true := by
    induction B with
    | nil => exact ⟨rfl, rfl, Nat.zero_le _, by simp [D.pys, PyData.eqvAll]⟩
    | cons b B ih =>
      obtain ⟨i1, i2, i3, i4⟩ := ih
      have py : (keepD b).py = .tuple [.tuple (b.2.1.map PyData.int), .int b.2.2] := by simp only [keepD, D.py, D.pys, pys_ints]
      refine ⟨?_, ?_, ?_, ?_⟩
      · show (((D.pures (b.2.1.map D.int)) && true) && D.pures (B.map keepD)) = true
        rw [pures_ints, i1]
        rfl
      · simp only [List.map_cons, D.pys, PyData.canLayAll0, py, PyData.canLay0, lay_ints, i2, Bool.and_self]
      · simp only [List.map_cons, D.pys, PyData.depthAll, py, PyData.depth, depth_ints]
        omega
      · simp only [List.map_cons, D.pys, PyData.eqvAll, py, PyData.eqv, eqvAll_ints, i4, decide_true, Bool.and_self]
        simp
  obtain ⟨i1, i2, i3, i4⟩ := e1
  have ok : D.ok (.lst (B.map keepD)) = true := by
    simp only [D.ok, D.pure, D.py, PyData.canLay0, PyData.depth, i1, i2, Bool.and_self, Bool.true_and]
    exact decide_eq_true (by omega)
  show (if _ then _ else _) = _
  rw [if_pos (by rw [ok]; rfl)]
  simp only [D.eqv, D.py, PyData.eqv, i4, Bool.not_true]
def eachS : St := (.ifs (.not (.call 26 (.cons (.call 16 (.cons (.v 3) (.cons (.sl (.v 5) (.c .non) (.v 8)) .nil))) (.cons (.ix (.v 4) (.v 8)) .nil)))) (.cons (.ret (.c (.bl false))) .nil) .nil)
theorem sl_take (xs : List D) (k : Nat) : slD (.lst xs) none (some (k : Int)) = some (.lst (xs.take k)) := by
  show some (D.lst (cutD _ _ _)) = _
  unfold cutD
  rw [HT.sIx_none, HT.sIx_nat, List.drop_zero, Nat.sub_zero]
  by_cases h : k ≤ xs.length
  · rw [Nat.min_eq_left h]
  · rw [Nat.min_eq_right (by omega), List.take_of_length_le (Nat.le_refl _), List.take_of_length_le (by omega)]
theorem each_ok {F : CF} {ρ : Iv.Env} {r m k : Nat} {xs As : List D} {a : D} (h3 : ρ[3]? = some (some (.int m))) (h4 : ρ[4]? = some (some (.ref r))) (h5 : ρ[5]? = some (some (.lst xs))) (h8 : ρ[8]? = some (some (.int k))) (hr : S[r]? = some (some As)) (ha : As[k]? = some a)
    (e1 : F 16 [.int m, .lst (xs.take k)] S = some (a, S)) (e2 : F 26 [a, a] S = some (.bl true, S)) : ex F w eachS ρ S = some (.nx ρ, S) := by
  have z : see S (.ref r) = some (.lst As) := by simp only [see, hr]
  have z2 : see S (.lst xs) = some (.lst xs) := rfl
  have hk := (List.getElem?_eq_some_iff.mp ha).1
  have z3 : ixD (.lst As) (.int (k : Int)) = some a := by rw [ix_lst, atI_nat hk, ha]
  have s1 : ev F (.sl (.v 5) (.c .non) (.v 8)) ρ S = some (.lst (xs.take k), S) := by
    simp only [ev, h5, h8, z2, part?, sl_take, isNonE, isIntD, Bool.true_or, Bool.or_true, Bool.and_self, if_true]
  have s2 : ev F (.call 16 (.cons (.v 3) (.cons (.sl (.v 5) (.c .non) (.v 8)) .nil))) ρ S = some (a, S) := by
    have q : ev F (.v 3) ρ S = some (.int m, S) := by simp only [ev, h3]
    rw [ev, evs_cons q (evs_cons s1 evs_nil)]
    simp only [e1]
  have s3 : ev F (.ix (.v 4) (.v 8)) ρ S = some (a, S) := by simp only [ev, h4, h8, z, z3]
  have s4 : ev F (.not (.call 26 (.cons (.call 16 (.cons (.v 3) (.cons (.sl (.v 5) (.c .non) (.v 8)) .nil))) (.cons (.ix (.v 4) (.v 8)) .nil)))) ρ S = some (.bl false, S) := by
    rw [ev, ev, evs_cons s2 (evs_cons s3 evs_nil)]
    simp only [e2, Bool.not_true]
  rw [eachS, ex, s4]
  simp only [exs]
def lastS : St := (.ifs (.cmp .IsNot (.callK 16 .nil (.cons (.bi .tuple (.cons (.comp false (.n 12) (.v 5) (.bi .list (.cons (.v 12) .nil))) .nil)) (.cons (.v 3) Es.nil)) [1, 0]) (.c .non)) (.cons (.ret (.c (.bl false))) .nil) .nil)
theorem last_ok {F : CF} {B : List Ans} {m : Nat} {a0 a1 a2 a4 a6 a7 a8 a9 a10 a11 a12 : Option D} (hB : B.length ≤ 1000) (e : F 16 [.int m, .tup (B.map (ansF false))] S = some (.non, S)) :
    ex F w lastS [a0, a1, a2, some (.int m), a4, some (.lst (B.map (ansF true))), a6, a7, a8, a9, a10, a11, a12] S = some (.nx [a0, a1, a2, some (.int m), a4, some (.lst (B.map (ansF true))), a6, a7, a8, a9, a10, a11, a12], S) := by
  have e0 := ev_comp (F := F) (S := S) (S1 := S) (t := .n 12) (it := .v 5) (elt := .bi .list (.cons (.v 12) .nil)) (ρ := [a0, a1, a2, some (.int m), a4, some (.lst (B.map (ansF true))), a6, a7, a8, a9, a10, a11, a12]) (x := .lst (B.map (ansF true))) (g := fun d => match d with | .tup ds => .lst ds | _ => .non) (by simp only [ev, List.getElem?_cons_succ, List.getElem?_cons_zero]) rfl (fun d hd => by
    obtain ⟨b, _, rfl⟩ := List.mem_map.mp hd
    refine ⟨_, rfl, ?_⟩
    simp only [ev, evs, wipeT, List.set_cons_succ, List.set_cons_zero, List.getElem?_cons_succ, List.getElem?_cons_zero, ansF, if_true, seeAll, see, biD]) (by rw [List.length_map]; omega)
  have z : ((B.map (ansF true)).map fun d => match d with | .tup ds => D.lst ds | _ => .non) = B.map (ansF false) := by
    rw [List.map_map]
    congr 1
  rw [z] at e0
  have s1 : ev F (.bi .tuple (.cons (.comp false (.n 12) (.v 5) (.bi .list (.cons (.v 12) .nil))) .nil)) [a0, a1, a2, some (.int m), a4, some (.lst (B.map (ansF true))), a6, a7, a8, a9, a10, a11, a12] S = some (.tup (B.map (ansF false)), S) := by
    rw [ev, evs_cons e0 evs_nil]
    simp only [seeAll, see, biD]
  have s2 : ev F (.v 3) [a0, a1, a2, some (.int m), a4, some (.lst (B.map (ansF true))), a6, a7, a8, a9, a10, a11, a12] S = some (.int m, S) := by simp only [ev, List.getElem?_cons_succ, List.getElem?_cons_zero]
  have s3 : ev F (.callK 16 .nil (.cons (.bi .tuple (.cons (.comp false (.n 12) (.v 5) (.bi .list (.cons (.v 12) .nil))) .nil)) (.cons (.v 3) Es.nil)) [1, 0]) [a0, a1, a2, some (.int m), a4, some (.lst (B.map (ansF true))), a6, a7, a8, a9, a10, a11, a12] S = some (.non, S) := by
    rw [ev, evs_nil]
    simp only []
    rw [evs_cons s1 (evs_cons s2 evs_nil)]
    exact e
  have z1 : cmpD .IsNot .non .non = some false := rfl
  have z2 : see S .non = some .non := rfl
  have s4 : ev F (.cmp .IsNot (.callK 16 .nil (.cons (.bi .tuple (.cons (.comp false (.n 12) (.v 5) (.bi .list (.cons (.v 12) .nil))) .nil)) (.cons (.v 3) Es.nil)) [1, 0]) (.c .non)) [a0, a1, a2, some (.int m), a4, some (.lst (B.map (ansF true))), a6, a7, a8, a9, a10, a11, a12] S = some (.bl false, S) := by
    rw [ev, s3]
    simp only [ev, z1, z2]
  rw [lastS, ex, s4]
  simp only [exs]
def sameS : St := (.ifs (.cmp .NotEq keepE (.v 7)) (.cons (.ret (.c (.bl false))) .nil) .nil)
theorem same_ok {F : CF} {B : List Ans} {a0 a1 a2 a3 a4 a6 a8 a9 a10 a11 a12 : Option D} (hB : B.length ≤ 1000) :
    ex F w sameS [a0, a1, a2, a3, a4, some (.lst (B.map (ansF true))), a6, some (.lst (B.map keepD)), a8, a9, a10, a11, a12] S = some (.nx [a0, a1, a2, a3, a4, some (.lst (B.map (ansF true))), a6, some (.lst (B.map keepD)), a8, a9, a10, a11, a12], S) := by
  have e := keep_ev (F := F) (S := S) (B := B) (a0 := a0) (a1 := a1) (a2 := a2) (a3 := a3) (a4 := a4) (a6 := a6) (a7 := some (.lst (B.map keepD))) (a8 := a8) (a9 := a9) (a10 := a10) (a11 := a11) (a12 := a12) hB
  have z : see S (.lst (B.map keepD)) = some (.lst (B.map keepD)) := rfl
  have s : ev F (.cmp .NotEq keepE (.v 7)) [a0, a1, a2, a3, a4, some (.lst (B.map (ansF true))), a6, some (.lst (B.map keepD)), a8, a9, a10, a11, a12] S = some (.bl false, S) := by
    rw [ev, e]
    simp only [ev, List.getElem?_cons_succ, List.getElem?_cons_zero, z, keep_ne]
  rw [sameS, ex, s]
  simp only [exs]
end Lk51

set_option Elab.async false
set_option linter.all false
set_option maxRecDepth 512
set_option maxHeartbeats 4000000
namespace Lk51
open PySem Iv
variable {w n : Nat} {S R : Sto} {cs : List Int}
theorem fl_ok {m : Nat} {is : List Inf} (hi : ∀ i ∈ is, i.c.length = m) : ∀ p ∈ fl is, (∀ x ∈ p.1, 0 ≤ x) ∧ p.1.length = m ∧ 0 ≤ p.2 := fun p hp => by
  obtain ⟨i, hin, hp⟩ := List.mem_flatMap.mp hp
  have hl := hi i hin
  have first : (∀ x ∈ firstQ i.c, 0 ≤ x) ∧ (firstQ i.c).length = m := by
    refine ⟨fun x hx => ?_, by rw [firstQ, List.length_map]; exact hl⟩
    obtain ⟨b, _, rfl⟩ := List.mem_map.mp hx
    cases b <;> decide
  have sec : (∀ x ∈ i.sec, 0 ≤ x) ∧ i.sec.length = m := by
    unfold Inf.sec
    rw [← sec_cast]
    refine ⟨fun x hx => ?_, by rw [List.length_map, sec_len]; exact hl⟩
    obtain ⟨k, _, rfl⟩ := List.mem_map.mp hx
    exact Int.natCast_nonneg k
  unfold Inf.fl at hp
  cases hb : i.two with
  | false =>
    rw [hb] at hp
    cases List.mem_singleton.mp hp
    exact ⟨first.1, first.2, Int.natCast_nonneg _⟩
  | true =>
    rw [hb] at hp
    rcases List.mem_cons.mp hp with rfl | hp
    · exact ⟨first.1, first.2, Int.natCast_nonneg _⟩
    · cases List.mem_singleton.mp hp
      exact ⟨sec.1, sec.2, Int.natCast_nonneg _⟩
theorem ev_new {F : CF} {ρ : Iv.Env} : ev F (.new .nil) ρ S = some (.ref S.length, S ++ [some ([] : List D)]) := by
  have zer : small 0 = true := rfl
  simp only [ev, evs, List.length_nil, zer, if_true, mkList]
def pickS : St := (.asg (.n 3) (.call 19 (.cons (.v 1) (.cons (.lst (.cons (.c (.int 2)) (.cons (.c (.int 1)) (.cons (.c (.int 3)) (.cons (.c (.int 2)) (.cons (.c (.int 0)) .nil)))))) .nil))))
def newS : St := (.par [4, 5] (.cons (.new .nil) (.cons (.new .nil) .nil)))
def forS : St := (.for (.n 6) (.call 21 (.cons (.v 3) .nil)) coT)
def keepS : St := (.asg (.n 7) keepE)
def eachF : St := (.for (.n 8) (.rng (.c (.int 0)) (.bi .len (.cons (.v 4) .nil))) (.cons eachS .nil))
def turnB : Ss := (.cons pickS (.cons newS (.cons forS (.cons cntS (.cons (.frz 5) (.cons keepS (.cons eachF (.cons lastS (.cons sameS .nil)))))))))
def finE : E := (.and (.cmp .Eq (.call 16 (.cons (.c (.int 0)) (.cons (.lst .nil) .nil))) (.tup .nil)) (.cmp .Eq (.call 16 (.cons (.c (.int 1)) (.cons (.lst (.cons (.tup (.cons (.tup (.cons (.c (.int 0)) .nil)) (.cons (.op .Pow (.c (.int 10)) (.c (.int 60))) .nil))) .nil)) .nil))) (.tup (.cons (.c (.int 2)) .nil))))
theorem law_body : b_law = (.cons (.asg (.n 1) (.call 17 (.cons (.v 0) .nil))) (.cons (.for (.n 2) (.rng (.c (.int 0)) (.c (.int 2))) turnB) (.cons (.ret finE) .nil))) := rfl
/-- the places behind the asking -/
def St5 (cs : List Int) (R : Sto) (t h : Int) (B : List Ans) : Sto := some (shelf cs t h) :: (R ++ [some ((B.map (·.2)).map askD), none])
theorem closed5 (hR : closedS (R.length + 1) R = true) (B : List Ans) : closedS ((R ++ [some ((B.map (·.2)).map askD), none]).length + 1) (R ++ [some ((B.map (·.2)).map askD), none]) = true := by
  refine closed_app (closed_mono ?_ hR) ?_
  · rw [List.length_append]; omega
  · show (D.unders _ _ && (true && true)) = true
    rw [unders_asks]
    rfl
theorem st5_a {t h : Int} {B : List Ans} : (St5 cs R t h B)[R.length + 1]? = some (some ((B.map (·.2)).map askD)) := by
  unfold St5
  rw [List.getElem?_cons_succ, List.getElem?_append_right (Nat.le_refl _), Nat.sub_self]
  rfl
section
variable {v0 v2 : Option D} {c6 c8 c9 c10 c11 c12 : Option D}
/-- each ask is what is told -/
theorem each_loop {m : Nat} {is : List Inf} {B : List Ans} {t h : Int} (hm : m ≤ 3) (hR : closedS (R.length + 1) R = true) (hC : is.map Inf.c = chs m) (hi : ∀ i ∈ is, InfOk m i) (hB : B.map (·.2) = fl is) (hl : B.length ≤ 1000) :
    ∀ (ks : List Nat) (v8 : Option D), (∀ k ∈ ks, k < B.length) → ∃ b8, forRun (.n 8) (fun ρ S => exs (run T w (n + 7)) w (.cons eachS .nil) ρ S) (ks.map fun (k : Nat) => D.int (0 + k)) [v0, some (.ref 0), v2, some (.int m), some (.ref (R.length + 1)), some (.lst (B.map (ansF true))), c6, some (.lst (B.map keepD)), v8, c9, c10, c11, c12] (St5 cs R t h B) =
      some (.nx [v0, some (.ref 0), v2, some (.int m), some (.ref (R.length + 1)), some (.lst (B.map (ansF true))), c6, some (.lst (B.map keepD)), b8, c9, c10, c11, c12], St5 cs R t h B)
  | [], v8, _ => ⟨v8, rfl⟩
  | k :: ks, v8, hk => by
    have hk0 := hk k List.mem_cons_self
    obtain ⟨b8, ih⟩ := each_loop (t := t) (h := h) hm hR hC hi hB hl ks (some (.int k)) fun j hj => hk j (List.mem_cons_of_mem _ hj)
    refine ⟨b8, ?_⟩
    have hkP : k < (B.map (·.2)).length := by rw [List.length_map]; exact hk0
    obtain ⟨p, hP⟩ : ∃ p, (B.map (·.2))[k]? = some p := ⟨_, List.getElem?_eq_getElem hkP⟩
    have hall := fl_ok (m := m) fun i hin => (hi i hin).len
    have hmem : p ∈ fl is := by rw [← hB]; exact List.mem_of_getElem? hP
    have hok : ∀ a ∈ B.take k, AnsOk m a := fun a ha => by
      have : a.2 ∈ fl is := by rw [← hB]; exact List.mem_map_of_mem (List.mem_of_mem_take ha)
      exact hall a.2 this
    have e1 := next_ask (w := w) (n := n) (S := St5 cs R t h B) (to := true) (tx := false) (is := is) (A := B.take k) (tail := (B.map (·.2)).drop k) (clo_sh (closed5 hR B)) hm hi hC (by rw [List.map_take, List.take_append_drop, hB]) hok (by rw [List.length_take]; omega)
    have ew : wantD ((B.map (·.2)).drop k) = askD p := by
      have hp2 : (B.map (·.2))[k] = p := (List.getElem?_eq_some_iff.mp hP).2
      rw [List.drop_eq_getElem_cons hkP, hp2]
      rfl
    have ez : (if false = true then D.tup ((B.take k).map (ansF true)) else D.lst ((B.take k).map (ansF true))) = .lst ((B.map (ansF true)).take k) := by
      rw [if_neg Bool.false_ne_true, List.map_take]
    rw [ew, ez] at e1
    have e2 := is_numbers (w := w) (n := n + 6) (S := St5 cs R t h B) p.1 (by rw [(hall _ hmem).2.1]; omega)
    have z0 : ((0 : Int) + (k : Int)) = (k : Int) := Int.zero_add _
    have hA : ((B.map (·.2)).map askD)[k]? = some (askD p) := by rw [List.getElem?_map, hP]; rfl
    have es := each_ok (F := run T w (n + 7)) (w := w) (S := St5 cs R t h B) (ρ := [v0, some (.ref 0), v2, some (.int m), some (.ref (R.length + 1)), some (.lst (B.map (ansF true))), c6, some (.lst (B.map keepD)), some (.int k), c9, c10, c11, c12]) (r := R.length + 1) (m := m) (k := k) rfl rfl rfl rfl st5_a hA e1 e2
    have et : exs (run T w (n + 7)) w (.cons eachS .nil) [v0, some (.ref 0), v2, some (.int m), some (.ref (R.length + 1)), some (.lst (B.map (ansF true))), c6, some (.lst (B.map keepD)), some (.int k), c9, c10, c11, c12] (St5 cs R t h B) = some (.nx [v0, some (.ref 0), v2, some (.int m), some (.ref (R.length + 1)), some (.lst (B.map (ansF true))), c6, some (.lst (B.map keepD)), some (.int k), c9, c10, c11, c12], St5 cs R t h B) := by
      rw [exs, es]
      simp only [exs]
    rw [List.map_cons, z0]
    exact (forRun_nx rfl et).trans ih
end
/-- a turn of the law -/
theorem turn_ok {v0 v2 v3 v4 v5 v6 v7 v8 v9 v10 v11 v12 : Option D} {t h : Int} (hw : 100 ≤ w) (hR : closedS (R.length + 1) R = true) (t0 : 0 ≤ t) (t1 : t + 500 ≤ 1000000) (h0 : 0 ≤ h) :
    ∃ (R' : Sto) (t' h' : Int) (c3 c4 c5 c6 c7 c8 c9 c10 c11 c12 : Option D), closedS (R'.length + 1) R' = true ∧ t ≤ t' ∧ t' ≤ t + 500 ∧ 0 ≤ h' ∧
      exs (run T w (n + 7)) w turnB [v0, some (.ref 0), v2, v3, v4, v5, v6, v7, v8, v9, v10, v11, v12] (some (shelf cs t h) :: R) = some (.nx [v0, some (.ref 0), v2, c3, c4, c5, c6, c7, c8, c9, c10, c11, c12], some (shelf cs t' h') :: R') := by
  obtain ⟨m, ta, ha, m1, q1, q2, q3, e1⟩ := pick_int (w := w) (n := n + 5) (cs := cs) (R := R) [2, 1, 3, 2, 0] (by simp) (by simp) t0 (by omega) h0
  have hm : m ≤ 3 := by
    simp only [List.mem_cons, List.not_mem_nil, or_false] at m1
    omega
  have hcl : (chs m).length ≤ 8 := by rw [chs_len]; exact Nat.le_trans (Nat.pow_le_pow_right (by decide) hm) (by decide)
  obtain ⟨is, B, tb, hb, b6, b9, b10, p1, p2, p3, p4, p5, p6, e2⟩ := co_loop (w := w) (n := n + 4) (cs := cs) (R := R) (v0 := v0) (v2 := v2) (v3 := some (.int m)) (v7 := v7) (v8 := v8) (v11 := v11) (v12 := v12) hw hR hm (chs m) [] ta ha v6 v9 v10 (chs_in m) (by rw [List.length_nil]; omega) (by omega) (by omega) q3
  rw [List.nil_append] at e2
  have hfl := fl_len hm p1
  have hBl : B.length = (fl is).length := by rw [← p3, List.length_map]
  have h16 : 2 * 2 ^ m ≤ 16 := Nat.mul_le_mul_left 2 (Nat.le_trans (Nat.pow_le_pow_right (by decide) hm) (by decide : 2 ^ 3 ≤ 8))
  have hB : B.length ≤ 16 := by omega
  have s1 : ex (run T w (n + 7)) w pickS [v0, some (.ref 0), v2, v3, v4, v5, v6, v7, v8, v9, v10, v11, v12] (some (shelf cs t h) :: R) = some (.nx [v0, some (.ref 0), v2, some (.int m), v4, v5, v6, v7, v8, v9, v10, v11, v12], some (shelf cs ta ha) :: R) := by
    have q : ev (run T w (n + 7)) (.v 1) [v0, some (.ref 0), v2, v3, v4, v5, v6, v7, v8, v9, v10, v11, v12] (some (shelf cs t h) :: R) = some (.ref 0, some (shelf cs t h) :: R) := by simp only [ev, List.getElem?_cons_succ, List.getElem?_cons_zero]
    have q2 := ev_lst (F := run T w (n + 7)) (ρ := [v0, some (.ref 0), v2, v3, v4, v5, v6, v7, v8, v9, v10, v11, v12]) (S := some (shelf cs t h) :: R) (evs_cons (ev_c (d := .int 2)) (evs_cons (ev_c (d := .int 1)) (evs_cons (ev_c (d := .int 3)) (evs_cons (ev_c (d := .int 2)) (evs_cons (ev_c (d := .int 0)) evs_nil))))) rfl
    have e1' : run T w (n + 7) 19 [.ref 0, .lst [.int 2, .int 1, .int 3, .int 2, .int 0]] (some (shelf cs t h) :: R) = some (.int m, some (shelf cs ta ha) :: R) := e1
    rw [pickS, ex, ev, evs_cons q (evs_cons q2 evs_nil)]
    simp only [e1', setT, List.set_cons_succ, List.set_cons_zero]
  have s2 : ex (run T w (n + 7)) w newS [v0, some (.ref 0), v2, some (.int m), v4, v5, v6, v7, v8, v9, v10, v11, v12] (some (shelf cs ta ha) :: R) = some (.nx (envL v0 v2 (some (.int m)) (R.length + 1) (R.length + 2) v6 v7 v8 v9 v10 v11 v12), St4 cs R ta ha []) := by
    have l2 : ((some (shelf cs ta ha) :: R) ++ [some ([] : List D)]).length = R.length + 2 := by rw [List.length_append]; rfl
    rw [newS, ex, evs_cons ev_new (evs_cons ev_new evs_nil), l2, List.append_assoc]
    rfl
  have s3 : ex (run T w (n + 7)) w forS (envL v0 v2 (some (.int m)) (R.length + 1) (R.length + 2) v6 v7 v8 v9 v10 v11 v12) (St4 cs R ta ha []) = some (.nx (envL v0 v2 (some (.int m)) (R.length + 1) (R.length + 2) b6 v7 v8 b9 b10 v11 v12), St4 cs R tb hb B) := by
    have q : ev (run T w (n + 7)) (.call 21 (.cons (.v 3) .nil)) (envL v0 v2 (some (.int m)) (R.length + 1) (R.length + 2) v6 v7 v8 v9 v10 v11 v12) (St4 cs R ta ha []) = some (.lst ((chs m).map wyT), St4 cs R ta ha []) := by
      have e := lchoices (w := w) (n := n + 6) (S := St4 cs R ta ha []) hm
      have q0 : ev (run T w (n + 7)) (.v 3) (envL v0 v2 (some (.int m)) (R.length + 1) (R.length + 2) v6 v7 v8 v9 v10 v11 v12) (St4 cs R ta ha []) = some (.int m, St4 cs R ta ha []) := by simp only [envL, ev, List.getElem?_cons_succ, List.getElem?_cons_zero]
      rw [ev, evs_cons q0 evs_nil]
      exact e
    rw [forS, ex, q]
    simp only [items]
    exact e2
  have a4 : (St4 cs R tb hb B)[R.length + 1]? = some (some ((B.map (·.2)).map askD)) := st3_a
  have s4 := cnt_ok (F := run T w (n + 7)) (w := w) (S := St4 cs R tb hb B) (ρ := envL v0 v2 (some (.int m)) (R.length + 1) (R.length + 2) b6 v7 v8 b9 b10 v11 v12) (r := R.length + 1) (m := m) (q := 2 ^ m) rfl rfl a4 (two_pow (n := n + 6) (Nat.le_trans hm (by decide))) (by rw [List.length_map, List.length_map, hBl]; exact hfl)
  have s5 : ex (run T w (n + 7)) w (.frz 5) (envL v0 v2 (some (.int m)) (R.length + 1) (R.length + 2) b6 v7 v8 b9 b10 v11 v12) (St4 cs R tb hb B) = some (.nx [v0, some (.ref 0), v2, some (.int m), some (.ref (R.length + 1)), some (.lst (B.map (ansF true))), b6, v7, v8, b9, b10, v11, v12], St5 cs R tb hb B) := by
    have g : (St4 cs R tb hb B)[R.length + 2]? = some (some (B.map (ansF true))) := st3_b
    have g2 : (St4 cs R tb hb B).set (R.length + 2) none = St5 cs R tb hb B := by
      unfold St4 St3 St5
      rw [List.set_cons_succ, List.set_append_right _ _ (Nat.le_succ _), show R.length + 1 - R.length = 1 by omega]
      rfl
    rw [ex]
    simp only [envL, List.getElem?_cons_succ, List.getElem?_cons_zero, g, g2, List.set_cons_succ, List.set_cons_zero]
  have s6 : ex (run T w (n + 7)) w keepS [v0, some (.ref 0), v2, some (.int m), some (.ref (R.length + 1)), some (.lst (B.map (ansF true))), b6, v7, v8, b9, b10, v11, v12] (St5 cs R tb hb B) = some (.nx [v0, some (.ref 0), v2, some (.int m), some (.ref (R.length + 1)), some (.lst (B.map (ansF true))), b6, some (.lst (B.map keepD)), v8, b9, b10, v11, v12], St5 cs R tb hb B) := by
    rw [keepS, ex, keep_ev (by omega)]
    rfl
  obtain ⟨b8, e3⟩ := each_loop (w := w) (n := n) (cs := cs) (R := R) (v0 := v0) (v2 := v2) (c6 := b6) (c9 := b9) (c10 := b10) (c11 := v11) (c12 := v12) (t := tb) (h := hb) hm hR p1 p2 p3 (by omega) (List.range B.length) v8 (fun k hk => List.mem_range.mp hk)
  have s7 : ex (run T w (n + 7)) w eachF [v0, some (.ref 0), v2, some (.int m), some (.ref (R.length + 1)), some (.lst (B.map (ansF true))), b6, some (.lst (B.map keepD)), v8, b9, b10, v11, v12] (St5 cs R tb hb B) = some (.nx [v0, some (.ref 0), v2, some (.int m), some (.ref (R.length + 1)), some (.lst (B.map (ansF true))), b6, some (.lst (B.map keepD)), b8, b9, b10, v11, v12], St5 cs R tb hb B) := by
    have z : see (St5 cs R tb hb B) (.ref (R.length + 1)) = some (.lst ((B.map (·.2)).map askD)) := by simp only [see, st5_a]
    have q : ev (run T w (n + 7)) (.bi .len (.cons (.v 4) .nil)) [v0, some (.ref 0), v2, some (.int m), some (.ref (R.length + 1)), some (.lst (B.map (ansF true))), b6, some (.lst (B.map keepD)), v8, b9, b10, v11, v12] (St5 cs R tb hb B) = some (.int B.length, St5 cs R tb hb B) := by
      simp only [ev, evs, List.getElem?_cons_succ, List.getElem?_cons_zero, seeAll, z, len_lst, List.length_map]
    rw [eachF, ex, rngC q (by omega)]
    simp only [items]
    exact e3
  have e4 := next_ask (w := w) (n := n) (S := St5 cs R tb hb B) (to := false) (tx := true) (is := is) (A := B) (tail := []) (clo_sh (closed5 hR B)) hm p2 p1 (by rw [List.append_nil]; exact p3) (fun a ha => fl_ok (m := m) (fun i hin => (p2 i hin).len) a.2 (by rw [← p3]; exact List.mem_map_of_mem ha)) (by omega)
  have s8 := last_ok (F := run T w (n + 7)) (w := w) (S := St5 cs R tb hb B) (B := B) (m := m) (a0 := v0) (a1 := some (.ref 0)) (a2 := v2) (a4 := some (.ref (R.length + 1))) (a6 := b6) (a7 := some (.lst (B.map keepD))) (a8 := b8) (a9 := b9) (a10 := b10) (a11 := v11) (a12 := v12) (by omega) e4
  have s9 := same_ok (F := run T w (n + 7)) (w := w) (S := St5 cs R tb hb B) (B := B) (a0 := v0) (a1 := some (.ref 0)) (a2 := v2) (a3 := some (.int m)) (a4 := some (.ref (R.length + 1))) (a6 := b6) (a8 := b8) (a9 := b9) (a10 := b10) (a11 := v11) (a12 := v12) (by omega)
  refine ⟨R ++ [some ((B.map (·.2)).map askD), none], tb, hb, some (.int m), some (.ref (R.length + 1)), some (.lst (B.map (ansF true))), b6, some (.lst (B.map keepD)), b8, b9, b10, v11, v12, closed5 hR B, by omega, by omega, p6, ?_⟩
  rw [turnB, exs, s1]
  simp only []
  rw [exs, s2]
  simp only []
  rw [exs, s3]
  simp only []
  rw [exs, s4]
  simp only []
  rw [exs, s5]
  simp only []
  rw [exs, s6]
  simp only []
  rw [exs, s7]
  simp only []
  rw [exs, s8]
  simp only []
  rw [exs, s9]
  simp only [exs]
  rfl
/-- the last row -/
theorem fin_ok {ρ : Iv.Env} {t h : Int} (hR : closedS (R.length + 1) R = true) : ev (run T w (n + 7)) finE ρ (some (shelf cs t h) :: R) = some (.bl true, some (shelf cs t h) :: R) := by
  have zer : small 0 = true := rfl
  have one : small 1 = true := rfl
  have two : small 2 = true := rfl
  have c0 := clo_sh (cs := cs) (t := t) (h := h) hR
  have e1 := next_ask (w := w) (n := n) (S := some (shelf cs t h) :: R) (m := 0) (to := true) (tx := false) (is := [⟨[], 0, 0⟩]) (A := []) (tail := [([], 0)]) c0 (by decide) (fun i hi => by cases List.mem_singleton.mp hi; exact ⟨rfl, .inl rfl⟩) rfl rfl (fun a ha => absurd ha List.not_mem_nil) (by decide)
  have e2 := next_ask (w := w) (n := n) (S := some (shelf cs t h) :: R) (m := 1) (to := true) (tx := false) (is := [⟨[false], 10 ^ 60, 0⟩, ⟨[true], 0, 0⟩]) (A := [(true, [0], 10 ^ 60)]) (tail := [([2], 0)]) c0 (by decide) (fun i hi => by
    rcases List.mem_cons.mp hi with rfl | hi
    · exact ⟨rfl, .inl rfl⟩
    · cases List.mem_singleton.mp hi
      exact ⟨rfl, .inr (Nat.zero_le _)⟩) rfl rfl (fun a ha => by
      cases List.mem_singleton.mp ha
      exact ⟨by decide, rfl, by decide⟩) (by decide)
  have e1' : run T w (n + 7) 16 [.int 0, .lst []] (some (shelf cs t h) :: R) = some (.tup [], some (shelf cs t h) :: R) := e1
  have e2' : run T w (n + 7) 16 [.int 1, .lst [.tup [.tup [.int 0], .int (10 ^ 60)]]] (some (shelf cs t h) :: R) = some (.tup [.int 2], some (shelf cs t h) :: R) := e2
  have z1 : cmpD .Eq (.tup []) (.tup []) = some true := eq_tup [] []
  have z2 : cmpD .Eq (.tup [.int 2]) (.tup [.int 2]) = some true := eq_tup [2] [2]
  have z3 : opD .Pow (.int 10) (.int 60) = some (.int (10 ^ 60)) := op_pow (by decide) (by decide) (by decide)
  have p : ∀ {xs : List D}, see (some (shelf cs t h) :: R) (.tup xs) = some (.tup xs) := fun {xs} => rfl
  have q1 : ev (run T w (n + 7)) (.call 16 (.cons (.c (.int 0)) (.cons (.lst .nil) .nil))) ρ (some (shelf cs t h) :: R) = some (.tup [], some (shelf cs t h) :: R) := by
    rw [ev, evs_cons ev_c (evs_cons (ev_lst evs_nil rfl) evs_nil)]
    exact e1'
  have q2 : ev (run T w (n + 7)) (.call 16 (.cons (.c (.int 1)) (.cons (.lst (.cons (.tup (.cons (.tup (.cons (.c (.int 0)) .nil)) (.cons (.op .Pow (.c (.int 10)) (.c (.int 60))) .nil))) .nil)) .nil))) ρ (some (shelf cs t h) :: R) = some (.tup [.int 2], some (shelf cs t h) :: R) := by
    have r1 : ev (run T w (n + 7)) (.tup (.cons (.c (.int 0)) .nil)) ρ (some (shelf cs t h) :: R) = some (.tup [.int 0], some (shelf cs t h) :: R) := by
      rw [ev, evs_cons ev_c evs_nil]
      rfl
    have r2 : ev (run T w (n + 7)) (.op .Pow (.c (.int 10)) (.c (.int 60))) ρ (some (shelf cs t h) :: R) = some (.int (10 ^ 60), some (shelf cs t h) :: R) := by
      simp only [ev, see_int, z3]
    have r3 : ev (run T w (n + 7)) (.tup (.cons (.tup (.cons (.c (.int 0)) .nil)) (.cons (.op .Pow (.c (.int 10)) (.c (.int 60))) .nil))) ρ (some (shelf cs t h) :: R) = some (.tup [.tup [.int 0], .int (10 ^ 60)], some (shelf cs t h) :: R) := by
      rw [ev, evs_cons r1 (evs_cons r2 evs_nil)]
      rfl
    rw [ev, evs_cons ev_c (evs_cons (ev_lst (evs_cons r3 evs_nil) rfl) evs_nil)]
    exact e2'
  have q3 : ev (run T w (n + 7)) (.cmp .Eq (.call 16 (.cons (.c (.int 0)) (.cons (.lst .nil) .nil))) (.tup .nil)) ρ (some (shelf cs t h) :: R) = some (.bl true, some (shelf cs t h) :: R) := by
    rw [ev, q1]
    simp only [ev, evs, List.length_nil, zer, if_true, p, z1]
  have q4 : ev (run T w (n + 7)) (.cmp .Eq (.call 16 (.cons (.c (.int 1)) (.cons (.lst (.cons (.tup (.cons (.tup (.cons (.c (.int 0)) .nil)) (.cons (.op .Pow (.c (.int 10)) (.c (.int 60))) .nil))) .nil)) .nil))) (.tup (.cons (.c (.int 2)) .nil))) ρ (some (shelf cs t h) :: R) = some (.bl true, some (shelf cs t h) :: R) := by
    rw [ev, q2]
    simp only [ev, evs, List.length_cons, List.length_nil, Nat.zero_add, one, if_true, p, z2]
  rw [finE, ev, q3]
  simp only []
  exact q4
theorem law_ok (hw : 100 ≤ w) (ns : List Int) : ∃ S', run T w (n + 8) 27 [.lst (ns.map D.int)] [] = some (.bl true, S') := by
  have e1 := shelf_ok (T := T) (w := w) (n := n + 6) (f := 17) (k := 62) rfl (by decide) ns
  obtain ⟨R1, t1, h1, c3, c4, c5, c6, c7, c8, c9, c10, c11, c12, a1, a2, a3, a4, e2⟩ := turn_ok (w := w) (n := n) (cs := ns.take 62) (R := []) (v0 := some (.lst (ns.map D.int))) (v2 := some (.int (0 + (0 : Nat)))) (v3 := none) (v4 := none) (v5 := none) (v6 := none) (v7 := none) (v8 := none) (v9 := none) (v10 := none) (v11 := none) (v12 := none) (t := 0) (h := 0) hw rfl (by decide) (by decide) (by decide)
  obtain ⟨R2, t2, h2, d3, d4, d5, d6, d7, d8, d9, d10, d11, d12, f1, f2, f3, f4, e3⟩ := turn_ok (w := w) (n := n) (cs := ns.take 62) (R := R1) (v0 := some (.lst (ns.map D.int))) (v2 := some (.int (0 + (1 : Nat)))) (v3 := c3) (v4 := c4) (v5 := c5) (v6 := c6) (v7 := c7) (v8 := c8) (v9 := c9) (v10 := c10) (v11 := c11) (v12 := c12) (t := t1) (h := h1) hw a1 (by omega) (by omega) a4
  have s1 : ex (run T w (n + 7)) w (.asg (.n 1) (.call 17 (.cons (.v 0) .nil))) [some (.lst (ns.map D.int)), none, none, none, none, none, none, none, none, none, none, none, none] [] = some (.nx [some (.lst (ns.map D.int)), some (.ref 0), none, none, none, none, none, none, none, none, none, none, none], [some (shelf (ns.take 62) 0 0)]) := by
    simp only [ex, ev, evs, List.getElem?_cons_zero, e1, setT, List.set_cons_succ, List.set_cons_zero]
  have s2 : ex (run T w (n + 7)) w (.for (.n 2) (.rng (.c (.int 0)) (.c (.int 2))) turnB) [some (.lst (ns.map D.int)), some (.ref 0), none, none, none, none, none, none, none, none, none, none, none] [some (shelf (ns.take 62) 0 0)] = some (.nx [some (.lst (ns.map D.int)), some (.ref 0), some (.int (0 + (1 : Nat))), d3, d4, d5, d6, d7, d8, d9, d10, d11, d12], some (shelf (ns.take 62) t2 h2) :: R2) := by
    have q : ev (run T w (n + 7)) (.c (.int 2)) [some (.lst (ns.map D.int)), some (.ref 0), none, none, none, none, none, none, none, none, none, none, none] [some (shelf (ns.take 62) 0 0)] = some (.int (2 : Nat), [some (shelf (ns.take 62) 0 0)]) := by
      rw [ev]
      rfl
    rw [ex, rngC q (by decide)]
    exact ((forRun_nx rfl e2).trans (forRun_nx rfl e3)).trans rfl
  have body : exs (run T w (n + 7)) w b_law [some (.lst (ns.map D.int)), none, none, none, none, none, none, none, none, none, none, none, none] [] = some (.rt (.bl true), some (shelf (ns.take 62) t2 h2) :: R2) := by
    rw [law_body, exs, s1]
    simp only []
    rw [exs, s2]
    simp only []
    rw [exs, ex, fin_ok f1]
  exact ⟨_, run_rt t27 rfl body⟩
end Lk51

theorem PySem.Challenge.cw_timesagain_k51_next_asks_by_own_reckonin_holds : PySem.Challenge.rw_timesagain_k51_next_asks_by_own_reckonin.Holds :=
  Lk51.holds_of fun ns _ => Lk51.law_ok (n := 12) (w := 1000000) (by decide) ns
