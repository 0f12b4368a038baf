import PyProof.Rows.All
import Wide.All
import OpenK.AllK
import Wide.FinOn
import HandS.ForMost
import HandS.Wide
import HandS.Style
import HandS.Deep
import KE.SortData
import KE.KSortAsk
import KE.LtSeq
import KE.SortCalls
import HandS.IsInst
import HandS.TupAny
import HandS.More
import HandS.SetTxt0
import HandS.TupSets
import HandS.FStr
import HandS.Defaults
import HandS.HeadEnd
import HandS.Head0
import HandS.Head1
import HandS.Head2
import HandS.HeadHook1
import HandS.HeadHook2
import HandS.HeadHook3
import HandS.HeadHook4
import PySem.Challenge.RW_timesagain_k06_put_in_without_catching
set_option Elab.async false
set_option linter.all false
namespace Iv
open PySem

/-- data: tuples and lists are values; a list that may change stands in the store, at a place -/
inductive D where
  | non | bl (b : Bool) | int (i : Int) | str (x : Str) | tup (xs : List D) | lst (xs : List D) | ref (i : Nat)
  deriving Inhabited

mutual
def D.py : D → PyData
  | .non => .none
  | .bl b => .bool b
  | .int i => .int i
  | .str x => .str x
  | .tup xs => .tuple (D.pys xs)
  | .lst xs => .list (D.pys xs)
  | .ref _ => .none
def D.pys : List D → List PyData
  | [] => []
  | x :: xs => D.py x :: D.pys xs
end
mutual
/-- no place of the store within -/
def D.pure : D → Bool
  | .tup xs => D.pures xs
  | .lst xs => D.pures xs
  | .ref _ => false
  | _ => true
def D.pures : List D → Bool
  | [] => true
  | x :: xs => D.pure x && D.pures xs
end
/-- what == takes: no places, signs that are such, not too deep -/
def D.ok (d : D) : Bool := d.pure && d.py.canLay0 && decide (d.py.depth ≤ 190)
def D.eqv (a b : D) : Bool := PyData.eqv a.py b.py
/-- None, truths, integers, texts -/
def D.flat : D → Bool
  | .non => true
  | .bl _ => true
  | .int _ => true
  | .str _ => true
  | _ => false

abbrev Env := List (Option D)
abbrev Sto := List (Option (List D))

/-- a list at a place is seen as what it holds -/
def see (S : Sto) : D → Option D
  | .ref i => match S[i]? with
    | some (some xs) => some (.lst xs)
    | _ => none
  | d => some d

inductive BI where
  | len | int | abs | tuple | list | all | any | sum | max2 | str | repr | sorted
  deriving DecidableEq
inductive Ty where
  | int | bool | str | list | tuple
  deriving DecidableEq
inductive ME where
  | append | pop | popAt | extend | index | join
  deriving DecidableEq
inductive Tg where
  | n (i : Nat) | t (is : List Nat)
mutual
inductive E where
  | v (i : Nat)
  | frz (i : Nat)
  | c (d : D)
  | g (x : Str) (d : D)
  | op (o : Operator) (a b : E)
  | neg (a : E)
  | cmp (o : CmpOp) (a b : E)
  | chain (o p : CmpOp) (a b c : E)
  | and (a b : E)
  | or (a b : E)
  | not (a : E)
  | ite (c a b : E)
  | tup (es : Es)
  | lst (es : Es)
  | new (es : Es)
  | ix (a i : E)
  | sl (a lo hi : E)
  | call (f : Nat) (es : Es)
  | callK (f : Nat) (es kes : Es) (pm : List Nat)
  | bi (b : BI) (es : Es)
  | mk (es : Es)
  | fmt (a : E)
  | js (es : Es)
  | sset (a : E)
  | comp (mt : Bool) (t : Tg) (it : E) (elt : E)
  | compI (mt : Bool) (t : Tg) (it : E) (cond elt : E)
  | meth (m : ME) (o : E) (es : Es)
  | isi (e : E) (tys : List Ty)
  | rng (a b : E)
  | zip (a b : E)
  | enum (a : E)
inductive Es where
  | nil
  | cons (e : E) (es : Es)
  | star (e : E) (es : Es)
end
mutual
inductive St where
  | asg (t : Tg) (e : E)
  | par (is : List Nat) (es : Es)
  | put (o i e : E)
  | ex (e : E)
  | ret (e : E)
  | ifs (c : E) (a b : Ss)
  | for (t : Tg) (it : E) (b : Ss)
  | wh (c : E) (b : Ss)
  | never
  | pass
  | brk
  | cnt
inductive Ss where
  | nil
  | cons (s : St) (ss : Ss)
end

/-- texts one behind the other -/
def catS : Str → List Str → Str
  | acc, [] => acc
  | acc, y :: ys => catS (acc ++ y) ys
def small (n : Nat) : Bool := decide (n ≤ 100000)

/-- what a loop walks -/
def items : D → Option (List D)
  | .lst xs => some xs
  | .tup xs => some xs
  | .str x => some (x.cps.toList.map fun c => .str ⟨#[c]⟩)
  | _ => none

def ints? : List D → Option (List Int)
  | [] => some []
  | .int i :: r => (ints? r).map (i :: ·)
  | _ :: _ => none
def bls? : List D → Option (List Bool)
  | [] => some []
  | .bl b :: r => (bls? r).map (b :: ·)
  | _ :: _ => none
def strs? : List D → Option (List Str)
  | [] => some []
  | .str x :: r => (strs? r).map (x :: ·)
  | _ :: _ => none

/-- a op b -/
def opD (o : Operator) (x y : D) : Option D :=
  match o, x, y with
  | .Add, .int i, .int j => some (.int (i + j))
  | .Sub, .int i, .int j => some (.int (i - j))
  | .Mult, .int i, .int j => if (decide (i.natAbs < 2 ^ 63) || decide (j.natAbs < 2 ^ 63)) || (decide (i.natAbs < 2 ^ 400000) && decide (j.natAbs < 2 ^ 400000)) then some (.int (i * j)) else none
  | .FloorDiv, .int i, .int j => if decide (0 < j) && decide (j.natAbs < 2 ^ 8000) then some (.int (i / j)) else none
  | .Mod, .int i, .int j => if decide (0 < j) then some (.int (i % j)) else none
  | .Pow, .int i, .int j => if decide (0 ≤ j) && decide (j ≤ 1000) && decide (i.natAbs < 2 ^ 64) then some (.int (i ^ j.toNat)) else none
  | .Add, .str a, .str b => if small (a.length + b.length) then some (.str (a ++ b)) else none
  | .Add, .tup a, .tup b => if small (a.length + b.length) then some (.tup (a ++ b)) else none
  | .Add, .lst a, .lst b => if small (a.length + b.length) then some (.lst (a ++ b)) else none
  | .Mult, .lst a, .int j => if small (a.length * j.toNat) && (decide (-100000 ≤ j) && decide (j ≤ 100000)) then some (.lst (List.replicate j.toNat a).flatten) else none
  | _, _, _ => none

def inFlat (x : D) (xs : List D) : Bool := xs.any fun y => D.eqv y x

/-- a op b, compared -/
def cmpD (o : CmpOp) (x y : D) : Option Bool :=
  match o with
  | .Eq => match x, y with
    | .int i, .int j => some (decide (i = j))
    | .str a, .str b => some (decide (a = b))
    | _, _ => if x.ok && y.ok then some (D.eqv x y) else none
  | .NotEq => match x, y with
    | .int i, .int j => some (!decide (i = j))
    | .str a, .str b => some (!decide (a = b))
    | _, _ => if x.ok && y.ok then some (!D.eqv x y) else none
  | .Lt => match x, y with | .int i, .int j => some (decide (i < j)) | _, _ => none
  | .LtE => match x, y with | .int i, .int j => some (decide (i ≤ j)) | _, _ => none
  | .Gt => match x, y with | .int i, .int j => some (decide (j < i)) | _, _ => none
  | .GtE => match x, y with | .int i, .int j => some (decide (j ≤ i)) | _, _ => none
  | .In => match y with
    | .lst ys => if x.flat && ys.all D.flat then some (inFlat x ys) else none
    | .tup ys => if x.flat && ys.all D.flat then some (inFlat x ys) else none
    | .str z => match x with | .str c => if c.length == 1 then some (decide (c.cps.getD 0 0 ∈ z.cps.toList)) else none | _ => none
    | _ => none
  | .NotIn => match y with
    | .lst ys => if x.flat && ys.all D.flat then some (!inFlat x ys) else none
    | .tup ys => if x.flat && ys.all D.flat then some (!inFlat x ys) else none
    | .str z => match x with | .str c => if c.length == 1 then some (!decide (c.cps.getD 0 0 ∈ z.cps.toList)) else none | _ => none
    | _ => none
  | .Is => match x, y with
    | .bl a, .bl b => some (decide (a = b))
    | .non, .non => some true
    | _, .non => some false
    | _, _ => none
  | .IsNot => match x, y with
    | .bl a, .bl b => some (!decide (a = b))
    | .non, .non => some false
    | _, .non => some true
    | _, _ => none

/-- x[i] -/
def ixD (x i : D) : Option D :=
  match x, i with
  | .lst xs, .int k => L2.atI xs k
  | .tup xs, .int k => L2.atI xs k
  | .str z, .int k => if small z.length then (L2.atI z.cps.toList k).map fun c => .str ⟨#[c]⟩ else none
  | _, _ => none

def cutD (xs : List D) (lo hi : Option Int) : List D := (xs.drop (HT.sIx xs.length 0 lo)).take (HT.sIx xs.length xs.length hi - HT.sIx xs.length 0 lo)
def part? : D → Option (Option Int)
  | .non => some none
  | .int i => some (some i)
  | _ => none
/-- x[lo:hi] -/
def slD (x : D) (lo hi : Option Int) : Option D :=
  match x with
  | .lst xs => some (.lst (cutD xs lo hi))
  | .tup xs => some (.tup (cutD xs lo hi))
  | .str z => if small z.length then some (.str (L2.cutS z lo hi)) else none
  | _ => none

def tyOf : D → Option Ty
  | .bl _ => some .bool
  | .int _ => some .int
  | .str _ => some .str
  | .lst _ => some .list
  | .tup _ => some .tuple
  | .ref _ => some .list
  | .non => none
def isTy (d : D) (t : Ty) : Bool := match tyOf d with
  | some u => u == t || (u == .bool && t == .int)
  | none => false

/-- what repr takes -/
def D.shows (d : D) : Bool := d.pure && d.py.showable && d.py.canLay0 && decide (d.py.depth ≤ 60) && decide (d.py.shown.length ≤ 100000)
/-- what sorted takes: data that can be compared, all texts or numbers, or tuples, the first of them empty -/
def allAlike (xs : List D) : Bool := xs.all fun a => xs.all fun b => PySem.W.alike a.py b.py
def D.isTup : D → Bool
  | .tup _ => true
  | _ => false
def D.isAtom : D → Bool
  | .int _ => true
  | .str _ => true
  | _ => false
def headNil : List D → Bool
  | .tup [] :: _ => true
  | _ => false
def sortOk (xs : List D) : Bool := small xs.length && D.pures xs && allAlike xs && (xs.all fun a => decide (a.py.depth ≤ 100)) && ((headNil xs && xs.all D.isTup) || xs.all D.isAtom)
def sortD (xs : List D) : List D := xs.mergeSort fun a b => !PySem.W.dataLt b.py a.py
/-- those that are new, in the order in which they come -/
def fresh1 (f : List Str) : List Str → List Str
  | [] => f
  | x :: l => if x ∈ f then fresh1 f l else fresh1 (f ++ [x]) l
/-- texts in order -/
def sortS (l : List Str) : List Str := l.mergeSort fun a b => !PySem.W.dataLt (.str b) (.str a)
/-- the builtins -/
def biD (b : BI) (xs : List D) : Option D :=
  match b, xs with
  | .len, [.lst xs] => some (.int xs.length)
  | .len, [.tup xs] => some (.int xs.length)
  | .len, [.str z] => if small z.length then some (.int z.length) else none
  | .int, [.int i] => some (.int i)
  | .int, [.bl b] => some (.int (if b then 1 else 0))
  | .abs, [.int i] => some (.int (if i < 0 then -i else i))
  | .tuple, [.lst xs] => some (.tup xs)
  | .tuple, [.tup xs] => some (.tup xs)
  | .list, [.lst xs] => some (.lst xs)
  | .list, [.tup xs] => some (.lst xs)
  | .list, [.str z] => if small z.length then some (.lst (z.cps.toList.map fun c => .str ⟨#[c]⟩)) else none
  | .all, [.lst xs] => (bls? xs).map fun bs => .bl (bs.all id)
  | .any, [.lst xs] => (bls? xs).map fun bs => .bl (bs.any id)
  | .sum, [.lst xs] => (ints? xs).map fun ns => .int ns.sum
  | .max2, [.int i, .int j] => some (.int (if j > i then j else i))
  | .str, [.int i] => if decide (i.natAbs < 2 ^ 1900) then some (.str (toString i)) else none
  | .repr, [.lst xs] => if D.shows (.lst xs) then some (.str ((D.lst xs).py.shown)) else none
  | .repr, [.tup xs] => if D.shows (.tup xs) then some (.str ((D.tup xs).py.shown)) else none
  | .repr, [.bl b] => some (.str ((D.bl b).py.shown))
  | .repr, [.str z] => if small ((D.str z).py.shown.length) then some (.str ((D.str z).py.shown)) else none
  | .sorted, [.lst xs] => if sortOk xs then some (.lst (sortD xs)) else none
  | .sorted, [.tup xs] => match strs? xs with
    | some ss => if decide (ss.length ≤ 1000) then some (.lst ((sortS ss).map D.str)) else none
    | none => none
  | _, _ => none

def setT : Tg → D → Env → Option Env
  | .n i, d, ρ => some (ρ.set i (some d))
  | .t is, .tup ds, ρ => if ds.length = is.length then some ((is.zip ds).foldl (fun r p => r.set p.1 (some p.2)) ρ) else none
  | _, _, _ => none
def wipeT : Tg → Env → Env
  | .n i, ρ => ρ.set i none
  | .t is, ρ => is.foldr (fun i r => r.set i none) ρ

def isNonE : E → Bool
  | .c .non => true
  | _ => false
def isIntD : D → Bool
  | .int _ => true
  | _ => false
/-- a call of a def, by its number: what it hands back, the store behind it -/
abbrev CF := Nat → List D → Sto → Option (D × Sto)

/-- arguments in the parameters' order -/
def prm {α : Type} (pm : List Nat) (xs : List α) : List α := pm.filterMap fun i => xs[i]?
/-- how many, where no star stands -/
def plainEs : Es → Option Nat
  | .nil => some 0
  | .cons _ es => (plainEs es).map (· + 1)
  | .star _ _ => none
/-- a comprehension's turns -/
def compRun (f : D → Sto → Option (Option D × Sto)) : List D → List D → Sto → Option (List D × Sto)
  | [], acc, S => some (acc, S)
  | d :: ds, acc, S => match f d S with
    | none => none
    | some (none, S1) => compRun f ds acc S1
    | some (some y, S1) => if small (acc.length + 1) then compRun f ds (acc ++ [y]) S1 else none

/-- a new list: a value, or a place of the store -/
def mkList (mt : Bool) (xs : List D) (S : Sto) : Option (D × Sto) :=
  if mt then (if D.pures xs then some (.ref S.length, S ++ [some xs]) else none) else some (.lst xs, S)

/-- methods: the receiver, the arguments, the store -/
def meD (m : ME) (o : D) (xs : List D) (S : Sto) : Option (D × Sto) :=
  match m, o, xs with
  | .append, .ref i, [x] => match S[i]? with
    | some (some ys) => if D.pure x && small (ys.length + 1) then some (.non, S.set i (some (ys ++ [x]))) else none
    | _ => none
  | .extend, .ref i, [.lst x] => match S[i]? with
    | some (some ys) => if D.pures x && small (ys.length + x.length) then some (.non, S.set i (some (ys ++ x))) else none
    | _ => none
  | .pop, .ref i, [] => match S[i]? with
    | some (some ys) => match ys[ys.length - 1]? with
      | some y => some (y, S.set i (some ys.dropLast))
      | none => none
    | _ => none
  | .popAt, .ref i, [.int k] => match S[i]? with
    | some (some ys) => match L2.ixN ys.length k with
      | some j => if small ys.length then (match ys[j]? with
        | some y => some (y, S.set i (some (ys.eraseIdx j)))
        | none => none) else none
      | none => none
    | _ => none
  | .index, .lst ys, [x] => if x.flat && ys.all D.flat then (match ys.findIdx? fun y => D.eqv y x with
      | some j => some (.int (j : Nat), S)
      | none => none) else none
  | .join, .str a, [.lst ys] => match strs? ys with
    | some ss => if small ((ss.map (·.length)).sum + ss.length * a.length) then some (.str (Txt.join a ss), S) else none
    | none => none
  | _, _, _ => none

def seeAll (S : Sto) : List D → Option (List D)
  | [] => some []
  | x :: xs => match see S x, seeAll S xs with
    | some y, some ys => some (y :: ys)
    | _, _ => none

mutual
def ev (F : CF) : E → Env → Sto → Option (D × Sto)
  | .v i, ρ, S => match ρ[i]? with
    | some (some d) => some (d, S)
    | _ => none
  | .frz i, ρ, S => match ρ[i]? with
    | some (some (.ref j)) => match S[j]? with
      | some (some xs) => some (.lst xs, S.set j none)
      | _ => none
    | _ => none
  | .c d, _, S => some (d, S)
  | .g _ d, _, S => some (d, S)
  | .op o a b, ρ, S => match ev F a ρ S with
    | none => none
    | some (x, S1) => match ev F b ρ S1 with
      | none => none
      | some (y, S2) => match see S2 x, see S2 y with
        | some x', some y' => match opD o x' y' with
          | some z => some (z, S2)
          | none => none
        | _, _ => none
  | .neg a, ρ, S => match ev F a ρ S with
    | some (.int i, S1) => some (.int (-i), S1)
    | _ => none
  | .cmp o a b, ρ, S => match ev F a ρ S with
    | none => none
    | some (x, S1) => match ev F b ρ S1 with
      | none => none
      | some (y, S2) => match see S2 x, see S2 y with
        | some x', some y' => match cmpD o x' y' with
          | some z => some (.bl z, S2)
          | none => none
        | _, _ => none
  | .chain o p a b c, ρ, S => match ev F a ρ S with
    | none => none
    | some (x, S1) => match ev F b ρ S1 with
      | none => none
      | some (y, S2) => match see S2 x, see S2 y with
        | some x', some y' => match cmpD o x' y' with
          | none => none
          | some false => some (.bl false, S2)
          | some true => match ev F c ρ S2 with
            | none => none
            | some (z, S3) => match see S3 y, see S3 z with
              | some y2, some z2 => match cmpD p y2 z2 with
                | some r => some (.bl r, S3)
                | none => none
              | _, _ => none
        | _, _ => none
  | .and a b, ρ, S => match ev F a ρ S with
    | some (.bl true, S1) => ev F b ρ S1
    | some (.bl false, S1) => some (.bl false, S1)
    | _ => none
  | .or a b, ρ, S => match ev F a ρ S with
    | some (.bl true, S1) => some (.bl true, S1)
    | some (.bl false, S1) => ev F b ρ S1
    | _ => none
  | .not a, ρ, S => match ev F a ρ S with
    | some (.bl b, S1) => some (.bl (!b), S1)
    | _ => none
  | .ite c a b, ρ, S => match ev F c ρ S with
    | some (.bl true, S1) => ev F a ρ S1
    | some (.bl false, S1) => ev F b ρ S1
    | _ => none
  | .tup es, ρ, S => match evs F es ρ S with
    | some (xs, S1) => if small xs.length then some (.tup xs, S1) else none
    | none => none
  | .lst es, ρ, S => match evs F es ρ S with
    | some (xs, S1) => if small xs.length then some (.lst xs, S1) else none
    | none => none
  | .new es, ρ, S => match evs F es ρ S with
    | some (xs, S1) => if small xs.length then mkList true xs S1 else none
    | none => none
  | .ix a i, ρ, S => match ev F a ρ S with
    | none => none
    | some (x, S1) => match ev F i ρ S1 with
      | none => none
      | some (y, S2) => match see S2 x with
        | none => none
        | some x' => match ixD x' y with
          | some z => some (z, S2)
          | none => none
  | .sl a lo hi, ρ, S => match ev F a ρ S with
    | none => none
    | some (x, S1) => match ev F lo ρ S1 with
      | none => none
      | some (l, S2) => match ev F hi ρ S2 with
        | none => none
        | some (h, S3) => match see S3 x, part? l, part? h with
          | some x', some l', some h' => if (isNonE lo || isIntD l) && (isNonE hi || isIntD h) then (match slD x' l' h' with
            | some z => some (z, S3)
            | none => none) else none
          | _, _, _ => none
  | .call f es, ρ, S => match evs F es ρ S with
    | some (xs, S1) => F f xs S1
    | none => none
  | .callK f es kes pm, ρ, S => match evs F es ρ S with
    | none => none
    | some (xs, S1) => match evs F kes ρ S1 with
      | none => none
      | some (ys, S2) => F f (prm pm (xs ++ ys)) S2
  | .bi b es, ρ, S => match evs F es ρ S with
    | some (xs, S1) => match seeAll S1 xs with
      | some ys => match biD b ys with
        | some z => some (z, S1)
        | none => none
      | none => none
    | none => none
  | .fmt a, ρ, S => match ev F a ρ S with
    | some (.str y, S1) => if small y.length then some (.str y, S1) else none
    | some (.int i, S1) => if decide (i.natAbs < 2 ^ 1900) then some (.str (toString i), S1) else none
    | _ => none
  | .js es, ρ, S => match evs F es ρ S with
    | some (xs, S1) => match strs? xs with
      | some ss => if small ((ss.map (·.length)).sum) then some (.str (catS Str.empty ss), S1) else none
      | none => none
    | none => none
  | .sset a, ρ, S => match ev F a ρ S with
    | none => none
    | some (x, S1) => match see S1 x with
      | some (.lst xs) => (match strs? xs with
        | some ss => if decide (ss.length ≤ 1000) then some (.lst ((sortS (fresh1 [] ss)).map D.str), S1) else none
        | none => none)
      | _ => none
  | .mk es, ρ, S => match evs F es ρ S with
    | some (xs, S1) => match seeAll S1 xs with
      | some ys => match biD .list ys with
        | some (.lst zs) => mkList true zs S1
        | _ => none
      | none => none
    | none => none
  | .comp mt t it elt, ρ, S => match ev F it ρ S with
    | none => none
    | some (x, S1) => match items x with
      | none => none
      | some xs => match compRun (fun d S => match setT t d (wipeT t ρ) with
          | none => none
          | some ρ' => match ev F elt ρ' S with
            | none => none
            | some (y, S') => some (some y, S')) xs [] S1 with
        | none => none
        | some (ys, S2) => mkList mt ys S2
  | .compI mt t it cond elt, ρ, S => match ev F it ρ S with
    | none => none
    | some (x, S1) => match items x with
      | none => none
      | some xs => match compRun (fun d S => match setT t d (wipeT t ρ) with
          | none => none
          | some ρ' => match ev F cond ρ' S with
            | some (.bl true, S1) => (match ev F elt ρ' S1 with
              | none => none
              | some (y, S') => some (some y, S'))
            | some (.bl false, S1) => some (none, S1)
            | _ => none) xs [] S1 with
        | none => none
        | some (ys, S2) => mkList mt ys S2
  | .meth m o es, ρ, S => match ev F o ρ S with
    | none => none
    | some (x, S1) => if (see S1 x).isSome then (match evs F es ρ S1 with
      | none => none
      | some (xs, S2) => meD m x xs S2) else none
  | .isi e tys, ρ, S => match ev F e ρ S with
    | some (x, S1) => match see S1 x with
      | some x' => some (.bl (tys.any (isTy x')), S1)
      | none => none
    | none => none
  | .rng a b, ρ, S => match ev F a ρ S with
    | some (.int i, S1) => match ev F b ρ S1 with
      | some (.int j, S2) => if decide (-(2 ^ 62) ≤ i) && decide (i < 2 ^ 62) && decide (-(2 ^ 62) ≤ j) && decide (j < 2 ^ 62) then
          some (.lst ((List.range (j - i).toNat).map fun (k : Nat) => .int (i + k)), S2) else none
      | _ => none
    | _ => none
  | .zip a b, ρ, S => match ev F a ρ S with
    | some (.lst xs, S1) => match ev F b ρ S1 with
      | some (.lst ys, S2) => if xs.length = ys.length then some (.lst ((xs.zip ys).map fun p => .tup [p.1, p.2]), S2) else none
      | _ => none
    | _ => none
  | .enum a, ρ, S => match ev F a ρ S with
    | some (.lst xs, S1) => some (.lst (((List.range xs.length).zip xs).map fun p => .tup [.int (p.1 : Nat), p.2]), S1)
    | _ => none
def evs (F : CF) : Es → Env → Sto → Option (List D × Sto)
  | .nil, _, S => some ([], S)
  | .cons e es, ρ, S => match ev F e ρ S with
    | none => none
    | some (x, S1) => match evs F es ρ S1 with
      | none => none
      | some (xs, S2) => some (x :: xs, S2)
  | .star e es, ρ, S => match ev F e ρ S with
    | none => none
    | some (x, S1) => match see S1 x with
      | some (.lst ys) => (match evs F es ρ S1 with
        | none => none
        | some (xs, S2) => some (ys ++ xs, S2))
      | some (.tup ys) => (match evs F es ρ S1 with
        | none => none
        | some (xs, S2) => some (ys ++ xs, S2))
      | _ => none
end

inductive Out where
  | nx (ρ : Env) | rt (d : D) | bk (ρ : Env) | ct (ρ : Env)

def forRun (t : Tg) (body : Env → Sto → Option (Out × Sto)) : List D → Env → Sto → Option (Out × Sto)
  | [], ρ, S => some (.nx ρ, S)
  | d :: ds, ρ, S => match setT t d ρ with
    | none => none
    | some ρ1 => match body ρ1 S with
      | none => none
      | some (.nx ρ2, S1) => forRun t body ds ρ2 S1
      | some (.ct ρ2, S1) => forRun t body ds ρ2 S1
      | some (.bk ρ2, S1) => some (.nx ρ2, S1)
      | some (.rt d, S1) => some (.rt d, S1)
def whRun (test : Env → Sto → Option (D × Sto)) (body : Env → Sto → Option (Out × Sto)) : Nat → Env → Sto → Option (Out × Sto)
  | 0, _, _ => none
  | n + 1, ρ, S => match test ρ S with
    | some (.bl false, S1) => some (.nx ρ, S1)
    | some (.bl true, S1) => (match body ρ S1 with
      | none => none
      | some (.nx ρ2, S2) => whRun test body n ρ2 S2
      | some (.ct ρ2, S2) => whRun test body n ρ2 S2
      | some (.bk ρ2, S2) => some (.nx ρ2, S2)
      | some (.rt d, S2) => some (.rt d, S2))
    | _ => none

mutual
def ex (F : CF) (w : Nat) : St → Env → Sto → Option (Out × Sto)
  | .asg t e, ρ, S => match ev F e ρ S with
    | none => none
    | some (x, S1) => match setT t x ρ with
      | none => none
      | some ρ' => some (.nx ρ', S1)
  | .par is es, ρ, S => match evs F es ρ S with
    | none => none
    | some (xs, S1) => if xs.length = is.length then some (.nx ((is.zip xs).foldl (fun r p => r.set p.1 (some p.2)) ρ), S1) else none
  | .put o i e, ρ, S => match ev F e ρ S with
    | none => none
    | some (x, S1) => match ev F o ρ S1 with
      | some (.ref l, S2) => (match ev F i ρ S2 with
        | some (.int k, S3) => (match S3[l]? with
          | some (some xs) => (match L2.ixN xs.length k with
            | some j => if D.pure x then some (.nx ρ, S3.set l (some (xs.set j x))) else none
            | none => none)
          | _ => none)
        | _ => none)
      | _ => none
  | .ex e, ρ, S => match ev F e ρ S with
    | none => none
    | some (_, S1) => some (.nx ρ, S1)
  | .ret e, ρ, S => match ev F e ρ S with
    | none => none
    | some (x, S1) => some (.rt x, S1)
  | .ifs c a b, ρ, S => match ev F c ρ S with
    | some (.bl true, S1) => exs F w a ρ S1
    | some (.bl false, S1) => exs F w b ρ S1
    | _ => none
  | .for t it b, ρ, S => match ev F it ρ S with
    | none => none
    | some (x, S1) => match items x with
      | none => none
      | some xs => forRun t (fun ρ S => exs F w b ρ S) xs ρ S1
  | .wh c b, ρ, S => whRun (fun ρ S => ev F c ρ S) (fun ρ S => exs F w b ρ S) w ρ S
  | .never, _, _ => none
  | .pass, ρ, S => some (.nx ρ, S)
  | .brk, ρ, S => some (.bk ρ, S)
  | .cnt, ρ, S => some (.ct ρ, S)
def exs (F : CF) (w : Nat) : Ss → Env → Sto → Option (Out × Sto)
  | .nil, ρ, S => some (.nx ρ, S)
  | .cons s ss, ρ, S => match ex F w s ρ S with
    | none => none
    | some (.nx ρ', S1) => exs F w ss ρ' S1
    | some o => some o
end

/-- a def: how many parameters, how many slots, its body -/
structure Fn where
  ar : Nat
  sl : Nat
  body : Ss
/-- behind a def: places that it made are forgotten, if nothing that goes on speaks of them -/
def leave (n : Nat) (d : D) (S : Sto) : Sto :=
  if D.pure d then S.take n else S
def run (T : List Fn) (w : Nat) : Nat → CF
  | 0 => fun _ _ _ => none
  | n + 1 => fun f ds S => match T[f]? with
    | none => none
    | some fn => if ds.length = fn.ar then (match exs (run T w n) w fn.body (ds.map some ++ List.replicate (fn.sl - fn.ar) none) S with
        | some (.rt d, S1) => some (d, leave S.length d S1)
        | some (.nx _, S1) => some (.non, leave S.length .non S1)
        | _ => none) else none
end Iv

set_option Elab.async false
set_option linter.all false
set_option maxRecDepth 100000
set_option maxHeartbeats 4000000
namespace Iv
open PySem PySem.W PySem.Calls PyProof.Rows PySem.SeqAt
variable {prog : Program} {w : World} {A : Around} {E : Value → Shared → Prop} {s : Shared}
theorem tup_lt_call {Q : Value → Shared → Prop} {l b : Addr} {vs ws : Array Value} {e r : Nat → Bool} (hl : s.heap.IsTuple l vs) (hb : s.heap.IsTuple b ws)
    (he : ∀ j (h1 : j < vs.size) (h2 : j < ws.size), EqAt A.in1 s vs[j] ws[j] (e j)) (hr : ∀ j (h1 : j < vs.size) (h2 : j < ws.size), e j = false → RcLt A.in1 s vs[j] ws[j] (r j))
    (h : Q (.bool (firstLt e r (decide (vs.size < ws.size)) (List.range (min vs.size ws.size)))) s) : wpAny (model prog w) A (call (.builtin "tuple.__lt__") [.ref l, .ref b]) Q E s := by
  obtain ⟨⟨c1, d1, da1, s1⟩, o1, k1, m1, e1⟩ := id hl
  obtain ⟨⟨c2, d2, da2, s2⟩, o2, k2, m2, e2⟩ := id hb
  simp only at k1 e1 k2 e2
  subst k1 e1 k2 e2
  exact call_meets F.slot_tuple_lt ⟨_, o1, rfl⟩ F.entry_tuple_lt (F.args_tuple_lt_2 _ _) (tuple_ltAt l b vs ws m1 m2 d1 d2 s1 s2 e r)
    ⟨o1, o2, he, hr, h⟩
theorem oneLt_tup {xs ys : List PyData} {a b : Value} {as bs : List Addr} {Q : Bool → Shared → Prop} (ra : Reads s.heap a (.tuple xs) as) (rb : Reads s.heap b (.tuple ys) bs) (h : alike (.tuple xs) (.tuple ys) = true)
    (hu : A.units + min (PyData.tuple xs).depth (PyData.tuple ys).depth < cLine) (hq : Q (dataLt (.tuple xs) (.tuple ys)) s) : wpAny (model prog w) A (oneLt' true a b) Q E s := by
  have hal : alikeAll xs ys = true := by simpa [alike] using h
  cases ra with
  | @tuple l o vs n _ as₁ h1 h2 h3 h4 =>
    cases rb with
    | @tuple l' o' vs' n' _ bs₁ k1 k2 k3 k4 =>
      have n1 : vs.size = xs.length := by simpa using SeqAt.ReadsAll.length _ _ _ h4
      have n2 : vs'.size = ys.length := by simpa using SeqAt.ReadsAll.length _ _ _ k4
      rw [oneLt'_eq]
      simp only [if_true]
      rw [dataLt_tuple, ← firstLt_toks xs ys hal, ← n1, ← n2] at hq
      refine wpAny_bind (wpAny_cRoomFor (SeqAt.room_here hu) ?_)
      refine wpAny_bind (wpAny_callSpecialIfBound?_slot (T := "tuple") ⟨_, h1, h2⟩ F.slot_tuple_lt (tup_lt_call (e := SeqAt.pairEq xs ys) (r := fun j => dataLt (xs.getD j .none) (ys.getD j .none)) ⟨_, h1, h2, _, h3⟩ ⟨_, k1, k2, _, k3⟩ (fun j j1 j2 => ?_) (fun j j1 j2 hj => ?_) ?_))
      · have := eqAt_alikeAll xs ys A.in1 s vs.toList vs'.toList _ _ h4 k4 hal (SeqAt.room_in hu) j (by simpa using j1) (by simpa using j2)
        simpa using this
      · have := rcLt_alikeAll xs ys A.in1 s vs.toList vs'.toList _ _ h4 k4 hal (SeqAt.room_in hu) j (by simpa using j1) (by simpa using j2) hj
        simpa using this
      · exact wpAny_truthy_bool hq
theorem mapM_res {α β : Type} {M : Model} {f : α → Sem β} : ∀ (l : List α) (ms : List β) {Q : List β → Shared → Prop}, l.length = ms.length → (∀ (i : Nat) (v : α) (m : β), l[i]? = some v → ms[i]? = some m → ∀ (Q' : β → Shared → Prop), Q' m s → wpAny M A (f v) Q' E s) → Q ms s → wpAny M A (l.mapM f) Q E s
  | [], [], _, _, _, h => by rw [List.mapM_nil]; exact wpAny_pure h
  | [], _ :: _, _, hl, _, _ => by cases hl
  | _ :: _, [], _, hl, _, _ => by cases hl
  | x :: l, m :: ms, Q, hl, hf, h => by
    rw [List.mapM_cons]
    exact wpAny_bind (hf 0 x m rfl rfl _ (wpAny_bind (mapM_res l ms (Q := fun bs s' => wpAny M A (pure (m :: bs)) Q E s') (by simpa using hl) (fun i v m h1 h2 => hf (i + 1) v m (by simpa using h1) (by simpa using h2)) (wpAny_pure h))))

theorem first_reads {M : Model} {v : Value} {xs : List PyData} {as : List Addr} (r : Reads s.heap v (.tuple xs) as) : ∃ m : Option Value, (xs = [] → m = none) ∧ ∀ (E' : Value → Shared → Prop) (Q' : Option Value → Shared → Prop), Q' m s → wpAny M A (firstOfTuple' v) Q' E' s := by
  cases r with
  | @tuple l o vs n _ as₁ h1 h2 h3 h4 =>
    refine ⟨vs[0]?, fun e => ?_, fun E' Q' hq => ?_⟩
    · subst e
      have n1 : vs.size = ([] : List PyData).length := by simpa using SeqAt.ReadsAll.length _ _ _ h4
      simpa using n1
    · rw [kas_first_eq]
      refine wpAny_bind (Looks.here (show Looks M s.heap (typeOf (.ref l)) o.cls from (Looks.ld h1).andThen .now) ?_)
      rw [h2, if_neg (by first | decide | simp)]
      exact wpAny_bind (listItems_at h1 h3 (wpAny_pure hq))
theorem firsts_reads {M : Model} : ∀ {vs : List Value} {ds : List PyData}, EachIs (fun v d => ∃ as, Reads s.heap v d as) vs ds → (∀ d, d ∈ ds → ∃ xs, d = .tuple xs) →
    ∃ ms : List (Option Value), vs.length = ms.length ∧ (∀ r, ds = .tuple [] :: r → ∃ m, ms = none :: m) ∧ ∀ (i : Nat) (v : Value) (m : Option Value), vs[i]? = some v → ms[i]? = some m → ∀ (E' : Value → Shared → Prop) (Q' : Option Value → Shared → Prop), Q' m s → wpAny M A (firstOfTuple' v) Q' E' s
  | _, _, .nil, _ => ⟨[], rfl, fun _ e => (nomatch e), fun i v m h _ => by simp at h⟩
  | _, _, .cons (b := d) ⟨as, r⟩ t, ht => by
    obtain ⟨ms, h1, _, h3⟩ := firsts_reads (M := M) t fun d hd => ht d (List.mem_cons_of_mem _ hd)
    obtain ⟨xs, rfl⟩ := ht d (List.mem_cons_self ..)
    obtain ⟨m, k1, k2⟩ := first_reads (M := M) (A := A) r
    refine ⟨m :: ms, by rw [List.length_cons, List.length_cons, h1], fun r e => ?_, fun i v m' hv hm E' Q' hq => ?_⟩
    · injection e with e1 e2
      injection e1 with e1
      exact ⟨ms, by rw [k1 e1]⟩
    · cases i with
      | zero => simp at hv hm; subst hv hm; exact k2 E' Q' hq
      | succ i => exact h3 i v m' (by simpa using hv) (by simpa using hm) E' Q' hq
theorem kind_tups0 {vs : List Value} {ds : List PyData} {M : Model} (e : EachIs (fun v d => ∃ as, Reads s.heap v d as) vs ds) (ht : ∀ d, d ∈ ds → ∃ xs, d = .tuple xs) (h0 : ∃ r, ds = .tuple [] :: r) {Q : SortKind → Shared → Prop} (h : Q oneType' s) :
    wpAny M A (keyKind' vs.toArray) Q E s := by
  obtain ⟨ms, h1, h2, h3⟩ := firsts_reads (M := M) (A := A) e ht
  obtain ⟨r, h0⟩ := h0
  obtain ⟨m, rfl⟩ := h2 r h0
  have hT : ∀ v ∈ vs, Looks M s.heap (typeOf v) (Value.type "tuple") := fun v hv => by
    obtain ⟨d, hd, as, r⟩ := e.left v hv
    obtain ⟨xs, rfl⟩ := ht d hd
    exact looks_reads r
  rw [keyKind'_eq, List.mapM_toArray, map_eq_pure_bind]
  refine wpAny_bind (wpAny_bind (mapM_res vs (none :: m) h1 (fun i v m' k1 k2 Q' hq => h3 i v m' k1 k2 _ Q' hq) (wpAny_pure ?_)))
  rw [if_neg (by simp), if_neg (by simp)]
  rw [oneTypeOnly'_eq, List.mapM_toArray, map_eq_pure_bind]
  refine wpAny_bind (wpAny_bind (wpAny_bind (kas_mapM (r := Value.type "tuple") _ (fun v hv Q' hq => (hT v hv).here hq) (wpAny_pure ?_))))
  have hall : ((List.map (fun _ => Value.type "tuple") vs).toArray.all fun x => x == Value.type "tuple") = true := by
    simp only [List.all_toArray, List.all_map, List.all_eq_true]
    intro _ _
    rfl
  obtain ⟨v, vs', rfl⟩ : ∃ v vs', vs = v :: vs' := by
    cases vs with
    | nil => cases h1
    | cons v vs' => exact ⟨v, vs', rfl⟩
  have h0 : (List.map (fun _ => Value.type "tuple") (v :: vs')).toArray[0]? = some (Value.type "tuple") := by simp
  rw [h0]
  simp only [hall, if_true]
  exact wpAny_pure (wpAny_pure h)
/-- tuples, the first of them empty, can be sorted -/
theorem sorts_tups0 {vs : List Value} {ds : List PyData} (e : EachIs (fun v d => ∃ as, Reads s.heap v d as) vs ds) (hal : AllAlike ds) (ht : ∀ d, d ∈ ds → ∃ xs, d = .tuple xs) (h0 : ∃ r, ds = .tuple [] :: r) (hu : ∀ d, d ∈ ds → A.units + d.depth < cLine) : SortsAt prog w A s (dataKind s.heap ds) vs := by
  have room : ∀ {d d' : PyData}, d ∈ ds → A.units + min d.depth d'.depth < cLine := fun {d d'} hd => Nat.lt_of_le_of_lt (Nat.add_le_add_left (Nat.min_le_left _ _) _) (hu d hd)
  refine ⟨fun v hv => ?_, oneType', ?_, fun h2 E Q hq => kind_tups0 e ht h0 hq⟩
  · obtain ⟨d, hd, as, r⟩ := e.left v hv
    exact ⟨_, dataKind_some hal hd r⟩
  · intro E x y a b Q ha hb hq
    obtain ⟨d, as, hd, ra, rfl⟩ := dataKind_inv ha
    obtain ⟨d', as', hd', rb, rfl⟩ := dataKind_inv hb
    obtain ⟨xs, rfl⟩ := ht d hd
    obtain ⟨ys, rfl⟩ := ht d' hd'
    rw [keyLt'_oneType]
    exact oneLt_tup ra rb (hal _ hd _ hd') (room hd) hq
theorem lt_str_total {a b : Str} (h1 : PySem.W.dataLt (.str a) (.str b) = false) (h2 : PySem.W.dataLt (.str b) (.str a) = false) : a = b := by
  have q := (PyProof.Rows.listOrd PyProof.Rows.itemOrd).total (PySem.W.keyToks (.str a)) (PySem.W.keyToks (.str b)) h1 h2
  simp only [PySem.W.keyToks] at q
  injection q with q _
  injection q with q
  exact PySem.W.str_of_cps q
theorem sortS_asc (l : List Str) : (sortS l).Pairwise fun a b => (!PySem.W.dataLt (.str b) (.str a)) = true := by
  have T := PySem.W.sortLe_total (PyProof.Rows.listOrd PyProof.Rows.itemOrd) false fun b : Str => PySem.W.keyToks (.str b)
  exact List.pairwise_mergeSort (le := fun a b : Str => !PySem.W.dataLt (.str b) (.str a)) (fun a b c h1 h2 => T.trans a b c h1 h2) (fun a b => (Bool.or_eq_true _ _).mpr (T.total a b)) _
theorem sortS_perm {l m : List Str} (h : l.Perm m) : sortS l = sortS m := by
  refine List.Perm.eq_of_pairwise (le := fun a b => (!PySem.W.dataLt (.str b) (.str a)) = true) (fun a b _ _ h1 h2 => ?_) (sortS_asc l) (sortS_asc m) ?_
  · rw [Bool.not_eq_true'] at h1 h2
    exact lt_str_total h2 h1
  · exact (List.mergeSort_perm _ _).trans (h.trans (List.mergeSort_perm _ _).symm)
theorem sortS_is (l : List Str) : (sortS l).Perm l := List.mergeSort_perm _ _
section
variable {P : Program}
theorem each_strs {h : Heap} : ∀ {vs : List Value} {ys : List Str}, StrsAre vs ys → PySem.W.EachIs (fun v d => ∃ as, PySem.Reads h v (PyData.str d) as) vs ys
  | _, _, .nil => .nil
  | _, _, .cons n t r => .cons ⟨_, .str _ _⟩ (each_strs r)
theorem each_strR : ∀ {vs : List Value} {ys : List Str}, StrsAre vs ys → PySem.W.EachIs (fun v d => ∃ t, v = Value.str d t) vs ys
  | _, _, .nil => .nil
  | _, _, .cons n t r => .cons ⟨_, rfl⟩ (each_strR r)
theorem strs_each : ∀ {vs : List Value} {ys : List Str}, PySem.W.EachIs (fun v d => ∃ t, v = Value.str d t) vs ys → StrsAre vs ys
  | _, _, .nil => .nil
  | _, _, .cons (b := n) ⟨t, e⟩ r => by subst e; exact .cons n t (strs_each r)
theorem strs_alike (ys : List Str) : PySem.W.AllAlike (ys.map PyData.str) := PySem.W.AllAlike.of (enc := PyData.str) fun _ _ => by simp [PySem.W.alike]
theorem strs_sortable (ys : List Str) : PySem.W.Sortable (ys.map PyData.str) := PySem.W.Sortable.others (enc := PyData.str) fun _ => ⟨by simp, fun xs => by simp⟩
theorem sorts_strs {vs : List Value} {ys : List Str} (hv : StrsAre vs ys) (hu : A.units < cLine) : PySem.W.SortsAt P w A s (PySem.W.dataKind s.heap (ys.map PyData.str)) vs :=
  PySem.W.SortsAt.data (PySem.W.each_map (R := fun v d => ∃ as, PySem.Reads s.heap v d as) PyData.str (each_strs hv)) (strs_alike ys) (strs_sortable ys) fun d hd => by
    obtain ⟨y, _, rfl⟩ := List.mem_map.mp hd
    simp only [PyData.depth]
    omega
theorem sorted_out {h' : Heap} {vs : List Value} {ys : List Str} (hv : StrsAre vs ys) : StrsAre (PySem.W.sortVals (PySem.W.dataKind h' (ys.map PyData.str)) false vs vs) (sortS ys) := by
  have q := PySem.W.sortVals_data (h' := h') (R := fun v d => ∃ t, v = Value.str d t) (enc := PyData.str) false (each_strR hv) (each_strs hv) (strs_alike ys)
  rw [PySem.W.dataLe_eq] at q
  exact strs_each q
/-- the items of a tuple, gathered -/
theorem collect_tup {l : Addr} {vs : List Value} {Q : List Value → Shared → Prop} (hl : s.heap.IsTuple l vs.toArray)
    (h : Q vs { s with heap := (s.heap.push (seqObj "list" #[] 0)).update s.heap.objs.size (Obj.mapSeq (· ++ vs.toArray)) }) (hsz : vs.length ≤ sizeLine) :
    wpAny (model P w) A (collect (.ref l)) Q E s := by
  obtain ⟨o, ho, hc, n, hd⟩ := id hl
  unfold collect
  refine wpAny_bind (wpAny_runValue (codeAny_builtin entry_proto_collect' ?_))
  show wpAny _ _ (do again (.builtin "list.__iadd__" ⟨[← newList [], .ref l], []⟩)) _ _ s
  refine wpAny_bind (wpAny_newList (wpAny_pure ⟨Code.quiet_builtin _ (by decide +kernel), codeAny_builtin entry_list_iadd' ?_⟩))
  show wpAny _ _ (Builtin.List.listExtendWith (.ref s.heap.objs.size) (.ref l) (.ref s.heap.objs.size)) _ _ { s with heap := s.heap.push (seqObj "list" #[] 0) }
  unfold Builtin.List.listExtendWith
  have ho' : (s.heap.push (seqObj "list" #[] 0)).get? l = some o := Heap.get?_push_of_some _ ho
  refine wpAny_bind (wpAny_typeOf (T := "tuple") ⟨o, ho', hc⟩ ?_)
  have ht : (Value.type "tuple" == Value.type "tuple") = true := by rfl
  rw [if_pos (by rw [ht]; simp)]
  refine wpAny_bind (listItems_at ho' hd ?_)
  refine wpAny_bind (listItems_at (xs := #[]) (n := 0) (Heap.get?_push_size _ rfl) rfl ?_)
  rw [if_neg (by simp)]
  refine wpAny_bind (listUpdate_at (xs := #[]) (n := 0) (Heap.get?_push_size _ rfl) rfl ?_ (Nat.zero_le _) (by show (#[] ++ vs.toArray).size ≤ sizeLine + 1; simp only [Array.size_append, List.size_toArray, List.length_nil]; omega))
  refine wpAny_pure ?_
  show wpAny (model P w) A (do
      let o ← load s.heap.objs.size
      match o.data with
      | .seq xs _ => pure xs.toList
      | _ => unsupported "internal:collect") Q E { s with heap := (s.heap.push (seqObj "list" #[] 0)).update s.heap.objs.size (Obj.mapSeq (· ++ vs.toArray)) }
  refine wpAny_bind (wpAny_load (get?_update_seq (Heap.get?_push_size _ rfl) _) ?_)
  show wpAny _ _ (pure ((#[] : Array Value) ++ vs.toArray).toList) Q E _
  rw [show ((#[] : Array Value) ++ vs.toArray).toList = vs by simp]
  exact wpAny_pure h
theorem sorted_tup {l : Addr} {vs : List Value} {ys : List Str} {Q : Value → Shared → Prop} (hl : s.heap.IsTuple l vs.toArray) (hv : StrsAre vs ys) (hL : ys.length ≤ 1000) (hu : A.units + 3 < cLine)
    (h : ∀ out : List Value, StrsAre out (sortS ys) → Q (.ref (s.heap.objs.size + 1)) { s with heap := sortedAll s.heap vs out.toArray }) : wpAny (model P w) A (call (.builtin "sorted") [.ref l]) Q E s := by
  have hvl := hv.length
  have hz : vs.length ≤ sizeLine := by rw [sizeLine_eq]; omega
  refine Calls.call_function_entry kind_sorted plain_sorted entry_sorted (args_sorted1 _) ?_
  unfold Builtin.«sorted»
  refine wpAny_bind (m := checkCount "sorted" 1 1 _) (wpAny_pure ?_)
  refine wpAny_bind (collect_tup hl ?_ hz)
  refine wpAny_bind (wpAny_newList ?_ hz)
  have hsz : ((s.heap.push (seqObj "list" #[] 0)).update s.heap.objs.size (Obj.mapSeq (· ++ vs.toArray))).objs.size = s.heap.objs.size + 1 := by
    rw [Heap.size_update, size_push']
  show wpAny _ _ _ _ _ { s with heap := PySem.W.copyHeap s.heap vs }
  rw [hsz]
  refine wpAny_bind (wpAny_holding (wpAny_call_entry slot_list_sort ⟨_, PySem.W.copyHeap_at s.heap vs, rfl⟩ entry_list_sort (PySem.W.list_sort_vals (s := { s with heap := PySem.W.copyHeap s.heap vs }) (PySem.W.copyHeap_at s.heap vs)
    (sorts_strs (s := { s with heap := PySem.W.sortingHeap (PySem.W.copyHeap s.heap vs) (s.heap.objs.size + 1) vs }) hv (by show A.units + 1 + 1 < cLine; omega)) hz ⟨_, rfl, ?_⟩) (args_list_sort _)))
  exact wpAny_pure ⟨_, rfl, h _ (sorted_out hv)⟩
end
end Iv

set_option Elab.async false
set_option linter.all false
set_option maxRecDepth 100000
namespace Iv
open PySem PySem.Spec PyProof.Rows L2

/-- where the places lie; lists that are being made -/
structure Mu where
  ps : List Addr
  z : List Addr
def Live0 (S : Sto) (μ : Mu) (a : Addr) : Prop := ∃ (i : Nat) (xs : List D), S[i]? = some (some xs) ∧ μ.ps[i]? = some a
def Live (S : Sto) (μ : Mu) (a : Addr) : Prop := Live0 S μ a ∨ a ∈ μ.z
/-- a list of the written part -/
def KL (K : PySem.W.Frag) (a : Addr) (xs : List V) : Prop :=
  ∃ (its : List Value) (n : Nat), K.lookup a = some { cls := .type "list", data := .seq its.toArray n } ∧ its.length ≤ sizeLine ∧ Vals xs its
/-- a list to be read, of the plain make -/
def SqP (K : PySem.W.Frag) (H : Hp) (a : Addr) (xs : List V) : Prop := Rd H a (.lst xs) ∨ KL K a xs
theorem SqP.l {K : PySem.W.Frag} {H : Hp} {a : Addr} {xs : List V} (h : SqP K H a xs) : SqL K H a xs := by
  rcases h with h | ⟨its, n, hk, hz, r⟩
  · exact .inl h
  · exact .inr ⟨_, its.toArray, n, hk, rfl, rfl, rfl, by simpa using hz, by simpa using r⟩
theorem SqP.of {K : PySem.W.Frag} {H : Hp} {a : Addr} {xs : List V} (h : H a = some (.lst xs)) : SqP K H a xs := .inl (.inl h)
theorem SqP.plain {X : Cx} {pins : List (Addr × Obj)} {σ : L2.St} {H : Hp} {s : Shared} {a : Addr} {xs : List V} (I : Inv X pins σ H s) (h : SqP X.K H a xs) :
    xs.length ≤ sizeLine ∧ ∃ (its : List Value) (n : Nat), Vals xs its ∧ xs.length = its.length ∧ s.heap.get? a = some { cls := .type "list", data := .seq its.toArray n } := by
  rcases h with h | ⟨its, n, hk, hz, r⟩
  · obtain ⟨z, its, n, r, e⟩ := h.ok I.hok
    exact ⟨z, its, n, r, r.length, e⟩
  · exact ⟨by rw [r.length]; exact hz, its, n, r, r.length, I.kIn a _ hk⟩

mutual
def Rep (K : PySem.W.Frag) (S : Sto) (μ : Mu) (H : Hp) : D → V → Prop
  | .non, v => v = .non
  | .bl b, v => v = .bl b
  | .int i, v => v = .int i
  | .str x, v => v = .str x
  | .tup ds, v => ∃ (a : Addr) (vs : List V), v = .ref a ∧ SqT K H a vs ∧ Reps K S μ H ds vs
  | .lst ds, v => ∃ (a : Addr) (vs : List V), v = .ref a ∧ ((Rd H a (.lst vs) ∧ ¬ Live S μ a) ∨ KL K a vs) ∧ Reps K S μ H ds vs
  | .ref i, v => ∃ a, v = .ref a ∧ μ.ps[i]? = some a
def Reps (K : PySem.W.Frag) (S : Sto) (μ : Mu) (H : Hp) : List D → List V → Prop
  | [], vs => vs = []
  | d :: ds, vs => ∃ v r, vs = v :: r ∧ Rep K S μ H d v ∧ Reps K S μ H ds r
end

structure Good (K : PySem.W.Frag) (S : Sto) (μ : Mu) (H : Hp) : Prop where
  len : μ.ps.length = S.length
  at_ : ∀ (i : Nat) (xs : List D), S[i]? = some (some xs) → ∃ a vs, μ.ps[i]? = some a ∧ H a = some (.lst vs) ∧ Reps K S μ H xs vs
  inj : ∀ (i j : Nat) (xs ys : List D) (a : Addr), S[i]? = some (some xs) → S[j]? = some (some ys) → μ.ps[i]? = some a → μ.ps[j]? = some a → i = j
  pur : ∀ (i : Nat) (xs : List D), S[i]? = some (some xs) → D.pures xs = true
  zl : ∀ a ∈ μ.z, ∃ vs, H a = some (.lst vs)
  zn : ∀ a ∈ μ.z, ¬ Live0 S μ a

/-- what stands is kept, but for lists that may change -/
structure EvoW (S : Sto) (μ : Mu) (H : Hp) (S' : Sto) (μ' : Mu) (H' : Hp) : Prop where
  mu : ∀ (i : Nat) (a : Addr), μ.ps[i]? = some a → μ'.ps[i]? = some a
  old : ∀ a o, H a = some o → ¬ Live S μ a → H' a = some o ∧ ¬ Live S' μ' a
structure Evo (S : Sto) (μ : Mu) (H : Hp) (S' : Sto) (μ' : Mu) (H' : Hp) : Prop where
  w : EvoW S μ H S' μ' H'
  z : μ'.z = μ.z
  hold : ∀ a o, a ∈ μ.z → H a = some o → H' a = some o

theorem EvoW.refl (S : Sto) (μ : Mu) (H : Hp) : EvoW S μ H S μ H := ⟨fun _ _ h => h, fun _ _ h n => ⟨h, n⟩⟩
theorem EvoW.trans {S μ H S1 μ1 H1 S2 μ2 H2} (a : EvoW S μ H S1 μ1 H1) (b : EvoW S1 μ1 H1 S2 μ2 H2) : EvoW S μ H S2 μ2 H2 :=
  ⟨fun i x h => b.mu i x (a.mu i x h), fun x o h n => let ⟨h1, n1⟩ := a.old x o h n; b.old x o h1 n1⟩
theorem Evo.refl (S : Sto) (μ : Mu) (H : Hp) : Evo S μ H S μ H := ⟨EvoW.refl _ _ _, rfl, fun _ _ _ h => h⟩
theorem Evo.trans {S μ H S1 μ1 H1 S2 μ2 H2} (a : Evo S μ H S1 μ1 H1) (b : Evo S1 μ1 H1 S2 μ2 H2) : Evo S μ H S2 μ2 H2 :=
  ⟨a.w.trans b.w, b.z.trans a.z, fun x o h q => b.hold x o (by rw [a.z]; exact h) (a.hold x o h q)⟩

section
variable {K : PySem.W.Frag} {S S' : Sto} {μ μ' : Mu} {H H' : Hp}

theorem Good.live (g : Good K S μ H) {a : Addr} (h : Live S μ a) : ∃ vs, H a = some (.lst vs) := by
  rcases h with ⟨i, xs, e, m⟩ | h
  · obtain ⟨b, vs, m', hb, _⟩ := g.at_ i xs e
    rw [m] at m'; cases m'
    exact ⟨vs, hb⟩
  · exact g.zl a h
theorem Good.notLive (g : Good K S μ H) {a : Addr} (h : ∀ vs, H a ≠ some (.lst vs)) : ¬ Live S μ a := fun l => by
  obtain ⟨vs, e⟩ := g.live l
  exact h vs e
theorem rdT (g : Good K S μ H) (e : EvoW S μ H S' μ' H') {a : Addr} {vs : List V} (h : Rd H a (.tup vs)) : Rd H' a (.tup vs) := by
  rcases h with h | ⟨o, h⟩
  · exact .inl (e.old a _ h (g.notLive fun ws q => by rw [h] at q; cases q)).1
  · exact .inr ⟨o, (e.old a _ h (g.notLive fun ws q => by rw [h] at q; cases q)).1⟩
theorem sqT_mono (g : Good K S μ H) (e : EvoW S μ H S' μ' H') {a : Addr} {vs : List V} (h : SqT K H a vs) : SqT K H' a vs := by
  rcases h with h | h
  · exact .inl (rdT g e h)
  · exact .inr h
theorem rdL (e : EvoW S μ H S' μ' H') {a : Addr} {vs : List V} (h : Rd H a (.lst vs)) (n : ¬ Live S μ a) : Rd H' a (.lst vs) ∧ ¬ Live S' μ' a := by
  rcases h with h | ⟨o, h⟩
  · exact ⟨.inl (e.old a _ h n).1, (e.old a _ h n).2⟩
  · exact ⟨.inr ⟨o, (e.old a _ h n).1⟩, (e.old a _ h n).2⟩
mutual
theorem Rep.mono (g : Good K S μ H) (e : EvoW S μ H S' μ' H') : ∀ {d : D} {v : V}, Rep K S μ H d v → Rep K S' μ' H' d v
  | .non, _, h => h
  | .bl _, _, h => h
  | .int _, _, h => h
  | .str _, _, h => h
  | .tup ds, _, ⟨a, vs, e1, q, r⟩ => ⟨a, vs, e1, sqT_mono g e q, Reps.mono g e r⟩
  | .lst ds, _, ⟨a, vs, e1, q, r⟩ => ⟨a, vs, e1, q.elim (fun z => .inl (rdL e z.1 z.2)) .inr, Reps.mono g e r⟩
  | .ref i, _, ⟨a, e1, m⟩ => ⟨a, e1, e.mu i a m⟩
theorem Reps.mono (g : Good K S μ H) (e : EvoW S μ H S' μ' H') : ∀ {ds : List D} {vs : List V}, Reps K S μ H ds vs → Reps K S' μ' H' ds vs
  | [], _, h => h
  | d :: ds, _, ⟨v, r, e1, h1, h2⟩ => ⟨v, r, e1, Rep.mono g e h1, Reps.mono g e h2⟩
end
theorem Reps.length : ∀ {ds : List D} {vs : List V}, Reps K S μ H ds vs → ds.length = vs.length
  | [], _, h => by cases (show _ = [] from h); rfl
  | d :: ds, _, ⟨v, r, e1, _, h2⟩ => by rw [e1, List.length_cons, List.length_cons, Reps.length h2]
theorem Reps.append : ∀ {ds es : List D} {vs ws : List V}, Reps K S μ H ds vs → Reps K S μ H es ws → Reps K S μ H (ds ++ es) (vs ++ ws)
  | [], _, _, _, h, h' => by cases (show _ = [] from h); exact h'
  | d :: ds, _, _, _, ⟨v, r, e1, h1, h2⟩, h' => by subst e1; exact ⟨v, _, rfl, h1, Reps.append h2 h'⟩
theorem Reps.get : ∀ {ds : List D} {vs : List V} {i : Nat} {d : D}, Reps K S μ H ds vs → ds[i]? = some d → ∃ v, vs[i]? = some v ∧ Rep K S μ H d v
  | [], _, _, _, _, e => by simp at e
  | d :: ds, _, 0, _, ⟨v, r, e1, h1, _⟩, e => by subst e1; simp at e; subst e; exact ⟨v, rfl, h1⟩
  | d :: ds, _, i + 1, _, ⟨v, r, e1, _, h2⟩, e => by
    subst e1
    obtain ⟨w, h3, h4⟩ := Reps.get (i := i) h2 (by simpa using e)
    exact ⟨w, by simpa using h3, h4⟩
theorem Reps.take : ∀ {ds : List D} {vs : List V} (n : Nat), Reps K S μ H ds vs → Reps K S μ H (ds.take n) (vs.take n)
  | _, _, 0, _ => by simp [Reps]
  | [], _, _ + 1, h => by cases (show _ = [] from h); exact rfl
  | d :: ds, _, n + 1, ⟨v, r, e1, h1, h2⟩ => by subst e1; exact ⟨v, _, rfl, h1, Reps.take n h2⟩
theorem Reps.drop : ∀ {ds : List D} {vs : List V} (n : Nat), Reps K S μ H ds vs → Reps K S μ H (ds.drop n) (vs.drop n)
  | _, _, 0, h => h
  | [], _, _ + 1, h => by cases (show _ = [] from h); exact rfl
  | d :: ds, _, n + 1, ⟨v, r, e1, _, h2⟩ => by subst e1; exact Reps.drop n h2
theorem Reps.set {d : D} {v : V} (r : Rep K S μ H d v) : ∀ {ds : List D} {vs : List V} (i : Nat), Reps K S μ H ds vs → Reps K S μ H (ds.set i d) (vs.set i v)
  | [], _, _, h => by cases (show _ = [] from h); exact rfl
  | _ :: ds, _, 0, ⟨w, q, e1, _, h2⟩ => by subst e1; exact ⟨v, q, rfl, r, h2⟩
  | _ :: ds, _, i + 1, ⟨w, q, e1, h1, h2⟩ => by subst e1; exact ⟨w, _, rfl, h1, Reps.set r i h2⟩
theorem Reps.eraseIdx : ∀ {ds : List D} {vs : List V} (i : Nat), Reps K S μ H ds vs → Reps K S μ H (ds.eraseIdx i) (vs.eraseIdx i)
  | [], _, _, h => by cases (show _ = [] from h); exact rfl
  | _ :: ds, _, 0, ⟨w, q, e1, _, h2⟩ => by subst e1; exact h2
  | _ :: ds, _, i + 1, ⟨w, q, e1, h1, h2⟩ => by subst e1; exact ⟨w, _, rfl, h1, Reps.eraseIdx i h2⟩
theorem Reps.dropLast {ds : List D} {vs : List V} (h : Reps K S μ H ds vs) : Reps K S μ H ds.dropLast vs.dropLast := by
  rw [List.dropLast_eq_take, List.dropLast_eq_take, ← h.length]
  exact h.take _
theorem Reps.rep {ds : List D} {vs : List V} (h : Reps K S μ H ds vs) : ∀ k : Nat, Reps K S μ H (List.replicate k ds).flatten (List.replicate k vs).flatten
  | 0 => rfl
  | k + 1 => by
    rw [List.replicate_succ, List.replicate_succ, List.flatten_cons, List.flatten_cons]
    exact Reps.append h (Reps.rep h k)
theorem Reps.cut {ds : List D} {vs : List V} (h : Reps K S μ H ds vs) (lo hi : Option Int) : Reps K S μ H (cutD ds lo hi) (cutV vs lo hi) := by
  unfold cutD cutV
  rw [h.length]
  exact (h.drop _).take _

/-- a list to be read -/
def LsR (K : PySem.W.Frag) (S : Sto) (μ : Mu) (H : Hp) (xs : List D) (v : V) : Prop := ∃ a vs, v = .ref a ∧ SqP K H a vs ∧ Reps K S μ H xs vs
theorem Rep.lsR {ds : List D} {v : V} (h : Rep K S μ H (.lst ds) v) : LsR K S μ H ds v := by
  obtain ⟨a, vs, e, q, r⟩ := h
  exact ⟨a, vs, e, q.elim (fun z => .inl z.1) .inr, r⟩
/-- what a value is seen as -/
def Seen (K : PySem.W.Frag) (S : Sto) (μ : Mu) (H : Hp) : D → V → Prop
  | .lst xs, v => LsR K S μ H xs v
  | d, v => Rep K S μ H d v
theorem see_ok (g : Good K S μ H) {d d' : D} {v : V} (h : Rep K S μ H d v) (e : see S d = some d') : Seen K S μ H d' v := by
  cases d with
  | ref i =>
    unfold see at e
    simp only at e
    cases q : S[i]? with
    | none => rw [q] at e; cases e
    | some o =>
      cases o with
      | none => rw [q] at e; cases e
      | some xs =>
        rw [q] at e
        cases e
        obtain ⟨a, e1, m⟩ := h
        obtain ⟨b, vs, m', hb, r⟩ := g.at_ i xs q
        rw [m] at m'; cases m'
        exact ⟨a, vs, e1, SqP.of hb, r⟩
  | lst xs => cases e; exact h.lsR
  | non => cases e; exact h
  | bl b => cases e; exact h
  | int i => cases e; exact h
  | str x => cases e; exact h
  | tup xs => cases e; exact h

mutual
theorem Rep.dp : ∀ {d : D} {v : V}, D.pure d = true → Rep K S μ H d v → Dp K H v d.py
  | .non, _, _, h => by cases (show _ = V.non from h); exact .non
  | .bl b, _, _, h => by cases (show _ = V.bl b from h); exact .bl b
  | .int i, _, _, h => by cases (show _ = V.int i from h); exact .int i
  | .str x, _, _, h => by cases (show _ = V.str x from h); exact .str x
  | .tup ds, _, p, ⟨a, vs, e, q, r⟩ => by subst e; exact .tup q (Reps.dp p r)
  | .lst ds, _, p, ⟨a, vs, e, q, r⟩ => by subst e; exact .lst (SqP.l (q.elim (fun z => .inl z.1) .inr)) (Reps.dp p r)
  | .ref i, _, p, _ => by cases p
theorem Reps.dp : ∀ {ds : List D} {vs : List V}, D.pures ds = true → Reps K S μ H ds vs → DpAll K H vs (D.pys ds)
  | [], _, _, h => by cases (show _ = [] from h); exact .nil
  | d :: ds, _, p, ⟨v, r, e, h1, h2⟩ => by
    subst e
    have p' : (D.pure d && D.pures ds) = true := p
    rw [Bool.and_eq_true] at p'
    exact .cons (Rep.dp p'.1 h1) (Reps.dp p'.2 h2)
end
theorem Seen.dp {d : D} {v : V} (p : D.pure d = true) (h : Seen K S μ H d v) : Dp K H v d.py := by
  cases d with
  | lst xs =>
    obtain ⟨a, vs, e, q, r⟩ := h
    subst e
    exact .lst q.l (Reps.dp p r)
  | ref i => cases p
  | non => exact Rep.dp (K := K) (S := S) (μ := μ) p h
  | bl b => exact Rep.dp (K := K) (S := S) (μ := μ) p h
  | int i => exact Rep.dp (K := K) (S := S) (μ := μ) p h
  | str x => exact Rep.dp (K := K) (S := S) (μ := μ) p h
  | tup xs => exact Rep.dp (K := K) (S := S) (μ := μ) p h

theorem flat_rep {d : D} {v : V} (f : d.flat = true) (h : Rep K S μ H d v) : flatV v = true ∧ ∀ S' μ' H', Rep K S' μ' H' d v := by
  cases d with
  | non => cases (show _ = V.non from h); exact ⟨rfl, fun _ _ _ => rfl⟩
  | bl b => cases (show _ = V.bl b from h); exact ⟨rfl, fun _ _ _ => rfl⟩
  | int i => cases (show _ = V.int i from h); exact ⟨rfl, fun _ _ _ => rfl⟩
  | str x => cases (show _ = V.str x from h); exact ⟨rfl, fun _ _ _ => rfl⟩
  | tup _ => cases f
  | lst _ => cases f
  | ref _ => cases f
theorem eqv_flat {d e : D} {v w : V} (fd : d.flat = true) (fe : e.flat = true) (h : Rep K S μ H d v) (h' : Rep K S μ H e w) : eqV v w = D.eqv d e := by
  cases d with
  | non => cases (show _ = V.non from h); cases e <;> first | (cases fe; done) | (cases h'; simp [eqV, D.eqv, D.py, PyData.eqv])
  | bl b => cases (show _ = V.bl b from h); cases e <;> first | (cases fe; done) | (cases h'; simp [eqV, D.eqv, D.py, PyData.eqv])
  | int b => cases (show _ = V.int b from h); cases e <;> first | (cases fe; done) | (cases h'; simp [eqV, D.eqv, D.py, PyData.eqv])
  | str b => cases (show _ = V.str b from h); cases e <;> first | (cases fe; done) | (cases h'; simp [eqV, D.eqv, D.py, PyData.eqv])
  | tup _ => cases fd
  | lst _ => cases fd
  | ref _ => cases fd
theorem flats_rep : ∀ {ds : List D} {vs : List V}, ds.all D.flat = true → Reps K S μ H ds vs → vs.all flatV = true
  | [], _, _, h => by cases (show _ = [] from h); rfl
  | d :: ds, _, f, ⟨v, r, e, h1, h2⟩ => by
    subst e
    rw [List.all_cons, Bool.and_eq_true] at f ⊢
    exact ⟨(flat_rep f.1 h1).1, flats_rep f.2 h2⟩
theorem inV_flat {x : D} {v : V} (fx : x.flat = true) (hx : Rep K S μ H x v) : ∀ {ds : List D} {vs : List V}, ds.all D.flat = true → Reps K S μ H ds vs → inV v vs = inFlat x ds
  | [], _, _, h => by cases (show _ = [] from h); rfl
  | d :: ds, _, f, ⟨w, r, e, h1, h2⟩ => by
    subst e
    rw [List.all_cons, Bool.and_eq_true] at f
    have q := inV_flat fx hx f.2 h2
    unfold inV inFlat at q ⊢
    rw [List.any_cons, List.any_cons, q, eqv_flat f.1 fx h1 hx]

theorem Good.none_notLive (g : Good K S μ H) {p : Addr} (h : H p = none) : ¬ Live S μ p := fun l => by
  obtain ⟨vs, e⟩ := g.live l
  rw [h] at e; cases e
theorem evo_new (g : Good K S μ H) {p : Addr} {o : HO} (h : H p = none) : Evo S μ H S μ (upd H p o) :=
  ⟨⟨fun _ _ q => q, fun a u q n => ⟨by rw [upd_ne (ne_of_none q h)]; exact q, n⟩⟩, rfl, fun a u _ q => by rw [upd_ne (ne_of_none q h)]; exact q⟩
theorem good_new (g : Good K S μ H) {p : Addr} {o : HO} (h : H p = none) : Good K S μ (upd H p o) := by
  have e := evo_new (o := o) g h
  refine ⟨g.len, fun i xs q => ?_, g.inj, g.pur, fun a ha => ?_, g.zn⟩
  · obtain ⟨a, vs, m, hh, r⟩ := g.at_ i xs q
    exact ⟨a, vs, m, by rw [upd_ne (ne_of_none hh h)]; exact hh, r.mono g e.w⟩
  · obtain ⟨vs, hh⟩ := g.zl a ha
    exact ⟨vs, by rw [upd_ne (ne_of_none hh h)]; exact hh⟩
theorem rep_tup_new (g : Good K S μ H) {p : Addr} {ds : List D} {vs : List V} (h : H p = none) (r : Reps K S μ H ds vs) : Rep K S μ (upd H p (.tup vs)) (.tup ds) (.ref p) :=
  ⟨p, vs, rfl, SqT.of upd_same, r.mono g (evo_new g h).w⟩
theorem rep_lst_new (g : Good K S μ H) {p : Addr} {ds : List D} {vs : List V} (h : H p = none) (r : Reps K S μ H ds vs) : Rep K S μ (upd H p (.lst vs)) (.lst ds) (.ref p) :=
  ⟨p, vs, rfl, .inl ⟨.inl upd_same, g.none_notLive h⟩, r.mono g (evo_new g h).w⟩

theorem get_snoc {α : Type} {l : List α} {x y : α} {i : Nat} (h : (l ++ [x])[i]? = some y) : l[i]? = some y ∨ (i = l.length ∧ x = y) := by
  by_cases hi : i < l.length
  · rw [List.getElem?_append_left hi] at h; exact .inl h
  · rw [List.getElem?_append_right (by omega)] at h
    have e : i - l.length = 0 := by
      rcases Nat.eq_zero_or_pos (i - l.length) with e | e
      · exact e
      · rw [List.getElem?_eq_none (by simp; omega)] at h; cases h
    rw [e] at h
    exact .inr ⟨by omega, by simpa using h⟩
theorem get_mono {α : Type} {l r : List α} {x : α} {i : Nat} (h : l[i]? = some x) : (l ++ r)[i]? = some x := by
  rw [List.getElem?_append_left (List.getElem?_eq_some_iff.mp h).1]; exact h
theorem get_last {α : Type} {l : List α} {x : α} {n : Nat} (h : l.length = n) : (l ++ [x])[n]? = some x := by
  rw [← h, List.getElem?_append_right (Nat.le_refl _)]; simp
abbrev Mu.more (μ : Mu) (p : Addr) : Mu := ⟨μ.ps ++ [p], μ.z⟩
theorem live0_more (g : Good K S μ H) {p a : Addr} {xs : List D} (l : Live0 (S ++ [some xs]) (μ.more p) a) : Live0 S μ a ∨ a = p := by
  obtain ⟨i, ys, e1, e2⟩ := l
  rcases get_snoc e2 with m | ⟨m, z⟩
  · rcases get_snoc e1 with k | ⟨k, _⟩
    · exact .inl ⟨i, ys, k, m⟩
    · have := (List.getElem?_eq_some_iff.mp m).1
      rw [k, g.len] at this
      exact absurd this (Nat.lt_irrefl _)
  · exact .inr z.symm
/-- the state around, without what speaks of p -/
structure Apart (K : PySem.W.Frag) (S : Sto) (μ : Mu) (H : Hp) (p : Addr) (vs : List V) : Prop where
  g : Good K S μ H
  nl : ¬ Live S μ p
theorem evo_mk (g : Good K S μ H) {p : Addr} {xs : List D} {o : HO} (h : H p = none) : Evo S μ H (S ++ [some xs]) (μ.more p) (upd H p o) :=
  ⟨⟨fun i a m => get_mono m, fun a u q n => ⟨by rw [upd_ne (ne_of_none q h)]; exact q, fun l => by
    rcases l with l | l
    · rcases live0_more g l with l | l
      · exact n (.inl l)
      · subst l
        rw [h] at q; cases q
    · exact n (.inr l)⟩⟩, rfl, fun a u _ q => by rw [upd_ne (ne_of_none q h)]; exact q⟩
theorem good_mk (g : Good K S μ H) {p : Addr} {xs : List D} {vs : List V} (h : H p = none) (r : Reps K S μ H xs vs) (pu : D.pures xs = true) : Good K (S ++ [some xs]) (μ.more p) (upd H p (.lst vs)) := by
  have e : Evo S μ H (S ++ [some xs]) (μ.more p) (upd H p (.lst vs)) := evo_mk g h
  have low : ∀ (i : Nat) (ys : List D), (S ++ [some xs])[i]? = some (some ys) → (S[i]? = some (some ys)) ∨ (i = S.length ∧ xs = ys) := fun i ys q => by
    rcases get_snoc q with k | ⟨k, z⟩
    · exact .inl k
    · exact .inr ⟨k, Option.some.inj z⟩
  refine ⟨by rw [List.length_append, List.length_append, g.len]; rfl, fun i ys q => ?_, fun i j ys zs a q1 q2 m1 m2 => ?_, fun i ys q => ?_, fun a ha => ?_, fun a ha l => ?_⟩
  · rcases low i ys q with k | ⟨k, z⟩
    · obtain ⟨a, ws, m, ha, rr⟩ := g.at_ i ys k
      exact ⟨a, ws, get_mono m, by rw [upd_ne (ne_of_none ha h)]; exact ha, rr.mono g e.w⟩
    · subst z
      exact ⟨p, vs, get_last (by rw [k, g.len]), upd_same, r.mono g e.w⟩
  · have pos : ∀ (i : Nat) (ys : List D), (S ++ [some xs])[i]? = some (some ys) → (μ.ps ++ [p])[i]? = some a → (S[i]? = some (some ys) ∧ μ.ps[i]? = some a) ∨ (i = S.length ∧ a = p) := fun i ys q m => by
      rcases low i ys q with k | ⟨k, _⟩
      · left
        refine ⟨k, ?_⟩
        rcases get_snoc m with z | ⟨z, _⟩
        · exact z
        · have := (List.getElem?_eq_some_iff.mp k).1
          rw [z, g.len] at this
          exact absurd this (Nat.lt_irrefl _)
      · right
        refine ⟨k, ?_⟩
        rw [get_last (by rw [k, g.len])] at m
        exact (Option.some.inj m).symm
    rcases pos i ys q1 m1 with ⟨k1, n1⟩ | ⟨k1, n1⟩
    · rcases pos j zs q2 m2 with ⟨k2, n2⟩ | ⟨k2, n2⟩
      · exact g.inj i j ys zs a k1 k2 n1 n2
      · subst n2
        exact absurd (.inl ⟨i, ys, k1, n1⟩) (g.none_notLive h)
    · rcases pos j zs q2 m2 with ⟨k2, n2⟩ | ⟨k2, n2⟩
      · subst n1
        exact absurd (.inl ⟨j, zs, k2, n2⟩) (g.none_notLive h)
      · rw [k1, k2]
  · rcases low i ys q with k | ⟨_, z⟩
    · exact g.pur i ys k
    · rw [← z]; exact pu
  · obtain ⟨ws, q⟩ := g.zl a ha
    exact ⟨ws, by rw [upd_ne (ne_of_none q h)]; exact q⟩
  · rcases live0_more g l with l | l
    · exact g.zn a ha l
    · subst l
      obtain ⟨ws, q⟩ := g.zl a ha
      rw [h] at q; cases q

theorem live0_set {i : Nat} {x : Option (List D)} {a : Addr} (h : Live0 (S.set i x) μ a) : Live0 S μ a ∨ (μ.ps[i]? = some a ∧ i < S.length ∧ x ≠ none) := by
  obtain ⟨j, ys, e, m⟩ := h
  by_cases hj : i = j
  · subst hj
    by_cases hi : i < S.length
    · rw [List.getElem?_set_self hi] at e
      exact .inr ⟨m, hi, by intro z; rw [z] at e; cases e⟩
    · rw [List.getElem?_eq_none (by rw [List.length_set]; omega)] at e; cases e
  · rw [List.getElem?_set_ne hj] at e
    exact .inl ⟨j, ys, e, m⟩
theorem evo_put (g : Good K S μ H) {i : Nat} {a : Addr} {xs ys : List D} {o : HO} (hi : S[i]? = some (some xs)) (m : μ.ps[i]? = some a) : Evo S μ H (S.set i (some ys)) μ (upd H a o) := by
  have la : Live0 S μ a := ⟨i, xs, hi, m⟩
  refine ⟨⟨fun _ _ q => q, fun b u q n => ⟨by rw [upd_ne fun z => by subst z; exact n (.inl la)]; exact q, fun l => ?_⟩⟩, rfl, fun b u hb q => by rw [upd_ne fun z => by subst z; exact g.zn _ hb la]; exact q⟩
  rcases l with l | l
  · rcases live0_set l with k | ⟨k, _, _⟩
    · exact n (.inl k)
    · rw [m] at k; cases k
      exact n (.inl la)
  · exact n (.inr l)
theorem good_put (g : Good K S μ H) {i : Nat} {a : Addr} {xs ys : List D} {vs : List V} (hi : S[i]? = some (some xs)) (m : μ.ps[i]? = some a) (r : Reps K S μ H ys vs) (pu : D.pures ys = true) :
    Good K (S.set i (some ys)) μ (upd H a (.lst vs)) := by
  have e : Evo S μ H (S.set i (some ys)) μ (upd H a (.lst vs)) := evo_put g hi m
  have la : Live0 S μ a := ⟨i, xs, hi, m⟩
  have lt := (List.getElem?_eq_some_iff.mp hi).1
  have low : ∀ (j : Nat) (zs : List D), (S.set i (some ys))[j]? = some (some zs) → ∃ ws, S[j]? = some (some ws) ∧ (i ≠ j → ws = zs) ∧ (i = j → ys = zs) := fun j zs q => by
    by_cases h : i = j
    · subst h
      rw [List.getElem?_set_self lt] at q
      exact ⟨xs, hi, fun z => absurd rfl z, fun _ => Option.some.inj (Option.some.inj q)⟩
    · rw [List.getElem?_set_ne h] at q
      exact ⟨zs, q, fun _ => rfl, fun z => absurd z h⟩
  refine ⟨by rw [List.length_set]; exact g.len, fun j zs q => ?_, fun j k zs ws b q1 q2 m1 m2 => ?_, fun j zs q => ?_, fun b hb => ?_, fun b hb l => ?_⟩
  · obtain ⟨ws, q0, ne, eq⟩ := low j zs q
    obtain ⟨b, us, mb, hb, rr⟩ := g.at_ j ws q0
    by_cases h : i = j
    · subst h
      have z := eq rfl
      subst z
      rw [m] at mb; cases mb
      exact ⟨a, vs, m, upd_same, r.mono g e.w⟩
    · have z := ne h
      subst z
      refine ⟨b, us, mb, ?_, rr.mono g e.w⟩
      rw [upd_ne fun z => h (g.inj i j xs ws a hi q0 m (by rw [← z]; exact mb))]; exact hb
  · obtain ⟨ws1, q1', _, _⟩ := low j zs q1
    obtain ⟨ws2, q2', _, _⟩ := low k ws q2
    exact g.inj j k ws1 ws2 b q1' q2' m1 m2
  · obtain ⟨ws, q0, ne, eq⟩ := low j zs q
    by_cases h : i = j
    · rw [← eq h]; exact pu
    · rw [← ne h]; exact g.pur j ws q0
  · obtain ⟨us, q⟩ := g.zl b hb
    exact ⟨us, by rw [upd_ne fun z => by subst z; exact g.zn _ hb la]; exact q⟩
  · rcases live0_set l with k | ⟨k, _, _⟩
    · exact g.zn b hb k
    · rw [m] at k; cases k
      exact g.zn a hb la
theorem evo_drop {i : Nat} : Evo S μ H (S.set i none) μ H :=
  ⟨⟨fun _ _ q => q, fun b u q n => ⟨q, fun l => by
    rcases l with l | l
    · rcases live0_set l with k | ⟨_, _, k⟩
      · exact n (.inl k)
      · exact k rfl
    · exact n (.inr l)⟩⟩, rfl, fun _ _ _ q => q⟩
theorem low_drop {i : Nat} (j : Nat) (zs : List D) (q : (S.set i none)[j]? = some (some zs)) : S[j]? = some (some zs) ∧ i ≠ j := by
  by_cases h : i = j
  · subst h
    by_cases lt : i < S.length
    · rw [List.getElem?_set_self lt] at q; cases q
    · rw [List.getElem?_eq_none (by rw [List.length_set]; omega)] at q; cases q
  · rw [List.getElem?_set_ne h] at q
    exact ⟨q, h⟩
theorem good_drop (g : Good K S μ H) {i : Nat} : Good K (S.set i none) μ H := by
  have e : Evo S μ H (S.set i none) μ H := evo_drop
  refine ⟨by rw [List.length_set]; exact g.len, fun j zs q => ?_, fun j k zs ws b q1 q2 m1 m2 => g.inj j k zs ws b (low_drop j zs q1).1 (low_drop k ws q2).1 m1 m2, fun j zs q => g.pur j zs (low_drop j zs q).1, g.zl, fun a ha l => ?_⟩
  · obtain ⟨b, us, mb, hb, rr⟩ := g.at_ j zs (low_drop j zs q).1
    exact ⟨b, us, mb, hb, rr.mono g e.w⟩
  · rcases live0_set l with k | ⟨_, _, k⟩
    · exact g.zn a ha k
    · exact k rfl
theorem rep_drop (g : Good K S μ H) {i : Nat} {xs : List D} {v : V} (hi : S[i]? = some (some xs)) (r : Rep K S μ H (.ref i) v) : Rep K (S.set i none) μ H (.lst xs) v := by
  obtain ⟨a, e1, m⟩ := r
  obtain ⟨b, vs, m', hb, rr⟩ := g.at_ i xs hi
  rw [m] at m'; cases m'
  refine ⟨a, vs, e1, .inl ⟨.inl hb, fun l => ?_⟩, rr.mono g evo_drop.w⟩
  rcases l with ⟨j, ys, e, mj⟩ | l
  · obtain ⟨q, ne⟩ := low_drop j ys e
    exact ne (g.inj i j xs ys a hi q m mj)
  · exact g.zn a l ⟨i, xs, hi, m⟩

abbrev Mu.take (μ : Mu) (n : Nat) : Mu := ⟨μ.ps.take n, μ.z⟩
theorem live0_take {n : Nat} {a : Addr} (h : Live0 (S.take n) (μ.take n) a) : Live0 S μ a := by
  obtain ⟨i, xs, e, m⟩ := h
  rw [List.getElem?_take] at e m
  split at e
  · rename_i hlt
    rw [if_pos hlt] at m
    exact ⟨i, xs, e, m⟩
  · cases e
theorem live_take {n : Nat} {a : Addr} (h : Live (S.take n) (μ.take n) a) : Live S μ a := h.elim (fun l => .inl (live0_take l)) .inr
mutual
theorem Rep.forget {S1 : Sto} {μ1 : Mu} (lv : ∀ a, Live S1 μ1 a → Live S μ a) : ∀ {d : D} {v : V}, D.pure d = true → Rep K S μ H d v → Rep K S1 μ1 H d v
  | .non, _, _, h => h
  | .bl _, _, _, h => h
  | .int _, _, _, h => h
  | .str _, _, _, h => h
  | .tup ds, _, p, ⟨a, vs, e1, q, r⟩ => ⟨a, vs, e1, q, Reps.forget lv p r⟩
  | .lst ds, _, p, ⟨a, vs, e1, q, r⟩ => ⟨a, vs, e1, q.elim (fun z => .inl ⟨z.1, fun l => z.2 (lv a l)⟩) .inr, Reps.forget lv p r⟩
  | .ref i, _, p, _ => by cases p
theorem Reps.forget {S1 : Sto} {μ1 : Mu} (lv : ∀ a, Live S1 μ1 a → Live S μ a) : ∀ {ds : List D} {vs : List V}, D.pures ds = true → Reps K S μ H ds vs → Reps K S1 μ1 H ds vs
  | [], _, _, h => h
  | d :: ds, _, p, ⟨v, r, e1, h1, h2⟩ => by
    have p' : (D.pure d && D.pures ds) = true := p
    rw [Bool.and_eq_true] at p'
    exact ⟨v, r, e1, Rep.forget lv p'.1 h1, Reps.forget lv p'.2 h2⟩
end
theorem good_take (g : Good K S μ H) (n : Nat) : Good K (S.take n) (μ.take n) H := by
  have low : ∀ (i : Nat) (xs : List D), (S.take n)[i]? = some (some xs) → S[i]? = some (some xs) ∧ i < n := fun i xs q => by
    rw [List.getElem?_take] at q
    split at q
    · rename_i h
      exact ⟨q, h⟩
    · cases q
  refine ⟨by rw [List.length_take, List.length_take, g.len], fun i xs q => ?_, fun i j xs ys a q1 q2 m1 m2 => ?_, fun i xs q => g.pur i xs (low i xs q).1, g.zl, fun a ha l => g.zn a ha (live0_take l)⟩
  · obtain ⟨q0, lt⟩ := low i xs q
    obtain ⟨a, vs, m, h, r⟩ := g.at_ i xs q0
    exact ⟨a, vs, by rw [List.getElem?_take, if_pos lt]; exact m, h, Reps.forget (fun a l => live_take l) (g.pur i xs q0) r⟩
  · obtain ⟨q1', lt1⟩ := low i xs q1
    obtain ⟨q2', lt2⟩ := low j ys q2
    rw [List.getElem?_take, if_pos lt1] at m1
    rw [List.getElem?_take, if_pos lt2] at m2
    exact g.inj i j xs ys a q1' q2' m1 m2
theorem evo_take {n : Nat} (hn : n = μ.ps.length) (e : Evo S μ H S' μ' H') : Evo S μ H (S'.take n) (μ'.take n) H' :=
  ⟨⟨fun i a m => by
    have lt := (List.getElem?_eq_some_iff.mp m).1
    rw [List.getElem?_take, if_pos (by omega)]
    exact e.w.mu i a m, fun a o q k => ⟨(e.w.old a o q k).1, fun l => (e.w.old a o q k).2 (live_take l)⟩⟩, e.z, e.hold⟩

abbrev Mu.hold (μ : Mu) (p : Addr) : Mu := ⟨μ.ps, p :: μ.z⟩
theorem live_hold {p a : Addr} (h : Live S (μ.hold p) a) : Live S μ a ∨ a = p := by
  rcases h with h | h
  · exact .inl (.inl h)
  · rcases List.mem_cons.mp h with z | z
    · exact .inr z
    · exact .inl (.inr z)
theorem evoW_begin (g : Good K S μ H) {p : Addr} {o : HO} (h : H p = none) : EvoW S μ H S (μ.hold p) (upd H p o) :=
  ⟨fun _ _ q => q, fun a u q n => ⟨by rw [upd_ne (ne_of_none q h)]; exact q, fun l => by
    rcases live_hold l with l | l
    · exact n l
    · subst l
      rw [h] at q; cases q⟩⟩
theorem good_begin (g : Good K S μ H) {p : Addr} {vs : List V} (h : H p = none) : Good K S (μ.hold p) (upd H p (.lst vs)) := by
  have e := evoW_begin (o := .lst vs) g h
  refine ⟨g.len, fun i xs q => ?_, g.inj, g.pur, fun a ha => ?_, fun a ha l => ?_⟩
  · obtain ⟨a, ws, m, hh, r⟩ := g.at_ i xs q
    exact ⟨a, ws, m, by rw [upd_ne (ne_of_none hh h)]; exact hh, r.mono g e⟩
  · rcases List.mem_cons.mp ha with z | z
    · subst z
      exact ⟨vs, upd_same⟩
    · obtain ⟨ws, q⟩ := g.zl a z
      exact ⟨ws, by rw [upd_ne (ne_of_none q h)]; exact q⟩
  · rcases List.mem_cons.mp ha with z | z
    · subst z
      exact g.none_notLive h (.inl l)
    · exact g.zn a z l
/-- one item more -/
theorem evoW_grow {p : Addr} {o : HO} (hp : p ∈ μ.z) : EvoW S μ H S μ (upd H p o) :=
  ⟨fun _ _ q => q, fun a u q n => ⟨by rw [upd_ne fun z => by subst z; exact n (.inr hp)]; exact q, n⟩⟩
theorem good_grow (g : Good K S μ H) {p : Addr} {vs : List V} (hp : p ∈ μ.z) : Good K S μ (upd H p (.lst vs)) := by
  refine ⟨g.len, fun i xs q => ?_, g.inj, g.pur, fun a ha => ?_, g.zn⟩
  · obtain ⟨a, ws, m, hh, r⟩ := g.at_ i xs q
    exact ⟨a, ws, m, by rw [upd_ne fun z => by subst z; exact g.zn _ hp ⟨i, xs, q, m⟩]; exact hh, r.mono g (evoW_grow hp)⟩
  · by_cases z : a = p
    · subst z
      exact ⟨vs, upd_same⟩
    · obtain ⟨ws, q⟩ := g.zl a ha
      exact ⟨ws, by rw [upd_ne z]; exact q⟩
/-- the list is made: a value -/
theorem live_unhold {p a : Addr} (h : Live S μ a) : Live S (μ.hold p) a := h.elim .inl fun z => .inr (List.mem_cons_of_mem _ z)
theorem evoW_end {p : Addr} : EvoW S (μ.hold p) H S μ H := ⟨fun _ _ q => q, fun a u q n => ⟨q, fun l => n (live_unhold l)⟩⟩
theorem good_end (g : Good K S (μ.hold p) H) : Good K S μ H :=
  ⟨g.len, fun i xs q => by
    obtain ⟨a, ws, m, hh, r⟩ := g.at_ i xs q
    exact ⟨a, ws, m, hh, r.mono g evoW_end⟩, g.inj, g.pur, fun a ha => g.zl a (List.mem_cons_of_mem _ ha), fun a ha l => g.zn a (List.mem_cons_of_mem _ ha) l⟩
/-- the list is made: a place -/
theorem good_place (g : Good K S (μ.hold p) H) (np : p ∉ μ.z) {xs : List D} {vs : List V} (hp : H p = some (.lst vs)) (r : Reps K S (μ.hold p) H xs vs) (pu : D.pures xs = true) : Good K (S ++ [some xs]) (μ.more p) H ∧ EvoW S (μ.hold p) H (S ++ [some xs]) (μ.more p) H := by
  have g0 : Good K S μ H := good_end g
  have nl : ¬ Live0 S μ p := g.zn p List.mem_cons_self
  have e : EvoW S (μ.hold p) H (S ++ [some xs]) (μ.more p) H := ⟨fun i a m => get_mono m, fun a u q n => ⟨q, fun l => by
    rcases l with l | l
    · rcases live0_more g0 l with l | l
      · exact n (.inl l)
      · subst l
        exact n (.inr List.mem_cons_self)
    · exact n (.inr (List.mem_cons_of_mem _ l))⟩⟩
  have low : ∀ (i : Nat) (ys : List D), (S ++ [some xs])[i]? = some (some ys) → (S[i]? = some (some ys)) ∨ (i = S.length ∧ xs = ys) := fun i ys q => by
    rcases get_snoc q with k | ⟨k, z⟩
    · exact .inl k
    · exact .inr ⟨k, Option.some.inj z⟩
  refine ⟨⟨by rw [List.length_append, List.length_append, g0.len]; rfl, fun i ys q => ?_, fun i j ys zs a q1 q2 m1 m2 => ?_, fun i ys q => ?_, fun a ha => g0.zl a ha, fun a ha l => ?_⟩, e⟩
  · rcases low i ys q with k | ⟨k, z⟩
    · obtain ⟨a, ws, m, ha, rr⟩ := g.at_ i ys k
      exact ⟨a, ws, get_mono m, ha, rr.mono g e⟩
    · subst z
      exact ⟨p, vs, get_last (by rw [k, g0.len]), hp, r.mono g e⟩
  · have pos : ∀ (i : Nat) (ys : List D), (S ++ [some xs])[i]? = some (some ys) → (μ.ps ++ [p])[i]? = some a → (S[i]? = some (some ys) ∧ μ.ps[i]? = some a) ∨ (i = S.length ∧ a = p) := fun i ys q m => by
      rcases low i ys q with k | ⟨k, _⟩
      · left
        refine ⟨k, ?_⟩
        rcases get_snoc m with z | ⟨z, _⟩
        · exact z
        · have := (List.getElem?_eq_some_iff.mp k).1
          rw [z, g0.len] at this
          exact absurd this (Nat.lt_irrefl _)
      · right
        refine ⟨k, ?_⟩
        rw [get_last (by rw [k, g0.len])] at m
        exact (Option.some.inj m).symm
    rcases pos i ys q1 m1 with ⟨k1, n1⟩ | ⟨k1, n1⟩
    · rcases pos j zs q2 m2 with ⟨k2, n2⟩ | ⟨k2, n2⟩
      · exact g0.inj i j ys zs a k1 k2 n1 n2
      · subst n2
        exact absurd ⟨i, ys, k1, n1⟩ nl
    · rcases pos j zs q2 m2 with ⟨k2, n2⟩ | ⟨k2, n2⟩
      · subst n1
        exact absurd ⟨j, zs, k2, n2⟩ nl
      · rw [k1, k2]
  · rcases low i ys q with k | ⟨_, z⟩
    · exact g0.pur i ys k
    · rw [← z]; exact pu
  · rcases live0_more g0 l with l | l
    · exact g0.zn a ha l
    · subst l
      exact np ha
end

structure RelS (K : PySem.W.Frag) (S : Sto) (μ : Mu) (H : Hp) (ρ : Env) (σ : L2.St) : Prop where
  len : ρ.length = σ.length
  at_ : ∀ (i : Nat) (d : D), ρ[i]? = some (some d) → ∃ v, σ[i]? = some (some v) ∧ Rep K S μ H d v
section
variable {K : PySem.W.Frag} {S S' : Sto} {μ μ' : Mu} {H H' : Hp} {ρ : Env} {σ : L2.St}
theorem RelS.mono (g : Good K S μ H) (e : EvoW S μ H S' μ' H') (r : RelS K S μ H ρ σ) : RelS K S' μ' H' ρ σ :=
  ⟨r.len, fun i d q => let ⟨v, h1, h2⟩ := r.at_ i d q; ⟨v, h1, h2.mono g e⟩⟩
theorem RelS.set (r : RelS K S μ H ρ σ) {d : D} {v : V} (i : Nat) (h : Rep K S μ H d v) : RelS K S μ H (ρ.set i (some d)) (σ.set i (some v)) :=
  ⟨by rw [List.length_set, List.length_set]; exact r.len, fun j c q => by
    by_cases hj : i = j
    · subst hj
      by_cases lt : i < ρ.length
      · rw [List.getElem?_set_self lt] at q
        cases q
        exact ⟨v, by rw [List.getElem?_set_self (by rw [← r.len]; exact lt)], h⟩
      · rw [List.getElem?_eq_none (by rw [List.length_set]; omega)] at q; cases q
    · rw [List.getElem?_set_ne hj] at q
      obtain ⟨w, h1, h2⟩ := r.at_ j c q
      exact ⟨w, by rw [List.getElem?_set_ne hj]; exact h1, h2⟩⟩
theorem RelS.drop (r : RelS K S μ H ρ σ) (i : Nat) : RelS K S μ H (ρ.set i none) (σ.set i none) :=
  ⟨by rw [List.length_set, List.length_set]; exact r.len, fun j c q => by
    by_cases hj : i = j
    · subst hj
      by_cases lt : i < ρ.length
      · rw [List.getElem?_set_self lt] at q; cases q
      · rw [List.getElem?_eq_none (by rw [List.length_set]; omega)] at q; cases q
    · rw [List.getElem?_set_ne hj] at q
      obtain ⟨w, h1, h2⟩ := r.at_ j c q
      exact ⟨w, by rw [List.getElem?_set_ne hj]; exact h1, h2⟩⟩
end
end Iv

set_option Elab.async false
set_option linter.all false
set_option maxRecDepth 100000
set_option maxHeartbeats 1000000
namespace Iv
open PySem PySem.Spec PyProof.Rows L2

theorem small_line {n : Nat} (h : small n = true) : n ≤ sizeLine := by
  have := of_decide_eq_true (show decide (n ≤ 100000) = true from h)
  rw [sizeLine_eq]; omega
theorem small_le {n : Nat} (h : small n = true) : n ≤ 100000 := of_decide_eq_true (show decide (n ≤ 100000) = true from h)
theorem small_lt {n : Nat} (h : small (n + 1) = true) : n < sizeLine := by
  have := small_le h
  rw [sizeLine_eq]; omega

section
variable {X : Cx} {pins : List (Addr × Obj)} {s : Shared} {σ : L2.St} {H : Hp} {S : Sto} {μ : Mu} {v w : V} {u1 u2 : Value} {Q : VK}

/-- behind an operation that makes a value -/
abbrev Cont (K : PySem.W.Frag) (S : Sto) (μ : Mu) (H : Hp) (z : D) (Q : VK) : Prop := ∀ v' H', Good K S μ H' → Evo S μ H S μ H' → Rep K S μ H' z v' → Q v' H'

theorem cont_here {K : PySem.W.Frag} {z : D} {v : V} (g : Good K S μ H) (k : Cont K S μ H z Q) (h : Rep K S μ H z v) : Q v H := k v H g (Evo.refl _ _ _) h
theorem cont_tup {K : PySem.W.Frag} {ds : List D} {vs : List V} (g : Good K S μ H) (k : Cont K S μ H (.tup ds) Q) (r : Reps K S μ H ds vs) : ∀ p, H p = none → Q (.ref p) (upd H p (.tup vs)) :=
  fun _ hp => k _ _ (good_new g hp) (evo_new g hp) (rep_tup_new g hp r)
theorem cont_lst {K : PySem.W.Frag} {ds : List D} {vs : List V} (g : Good K S μ H) (k : Cont K S μ H (.lst ds) Q) (r : Reps K S μ H ds vs) : ∀ p, H p = none → Q (.ref p) (upd H p (.lst vs)) :=
  fun _ hp => k _ _ (good_new g hp) (evo_new g hp) (rep_lst_new g hp r)

/-- list + list, both read -/
theorem cat_lists {a b : Addr} {xs ys : List V} (I : Inv X pins σ H s) (ha : SqP X.K H a xs) (hb : SqP X.K H b ys) (hz : xs.length + ys.length ≤ sizeLine) (q : ∀ p, H p = none → Q (.ref p) (upd H p (.lst (xs ++ ys)))) :
    wpAny (model X.prog X.w) X.A (binaryOp .Add (.ref a) (.ref b)) (EP X pins σ Q) X.xe s := by
  obtain ⟨z, its, n, r, hl, e⟩ := ha.plain I
  obtain ⟨z2, its2, n2, r2, hl2, e2⟩ := hb.plain I
  refine PySem.P.add_list e e2 ?_ (by rw [List.size_toArray, List.size_toArray]; omega)
  have ea : its.toArray ++ its2.toArray = (its ++ its2).toArray := by simp
  rw [ea]
  exact ⟨.ref _, _, I.lnew (t' := s.toks) (r.append r2) (by rw [List.length_append]; omega), rfl, q _ I.fresh⟩

theorem Reps.many {K : PySem.W.Frag} {S : Sto} {μ : Mu} {H : Hp} {ds : List D} {vs : List V} (h : Reps K S μ H ds vs) : ∀ m : Nat, Reps K S μ H (List.replicate m ds).flatten (List.replicate m vs).flatten
  | 0 => rfl
  | m + 1 => by
    rw [List.replicate_succ, List.replicate_succ, List.flatten_cons, List.flatten_cons]
    exact h.append (Reps.many h m)
/-- list * int, the list read -/
theorem times_list {a : Addr} {xs : List V} {j : Int} {t : Tok} (I : Inv X pins σ H s) (ha : SqP X.K H a xs) (j1 : -100000 ≤ j) (j2 : j ≤ 100000) (hz : xs.length * j.toNat ≤ sizeLine) (q : ∀ p, H p = none → Q (.ref p) (upd H p (.lst (List.replicate j.toNat xs).flatten))) :
    wpAny (model X.prog X.w) X.A (binaryOp .Mult (.ref a) (.int j t)) (EP X pins σ Q) X.xe s := by
  obtain ⟨z, us, m, r, hl, e⟩ := ha.plain I
  have hm : us.length = xs.length := r.length.symm
  have g1 : us.toArray.size * j.toNat ≤ sizeLine := by
    rw [List.size_toArray, hm]
    exact hz
  have g2 : ¬ us.toArray.size * j.toNat > (2 ^ 63 - 1) / 8 := by
    have z0 := sizeLine_eq
    omega
  have g3 : ¬ (!Builtin.List.listFitsIndex j) = true := by rw [fitsIndex_both (by omega) (by omega)]; exact Bool.false_ne_true
  have g4 : ¬ Builtin.List.listTooLong (us.toArray.size * j.toNat) = true := by rw [notLongL g1]; exact Bool.false_ne_true
  have g5 : ∀ m : Nat, List.foldl (fun x1 x2 => x1 ++ x2) #[] (List.replicate m us.toArray) = (List.replicate m us).flatten.toArray := fun m => by
    have := foldl_rep us m []
    simpa using this
  have g6 : List.foldl (fun x1 x2 => x1 ++ x2) #[] (List.replicate (if us.toArray.isEmpty = true then 0 else j.toNat) us.toArray) = (List.replicate j.toNat us).flatten.toArray := by
    rw [g5]
    by_cases hu : us = []
    · subst hu; simp
    · rw [if_neg (by simpa using hu)]
  refine wpAny_binaryOp_repeat_ref (T := "list") (U := "int") (by decide) ⟨_, e, rfl⟩ (fun st => typeIs_int st j t) noFill_list_mul F.fills_int_mul F.slot_int_rmul repeat_list F.slot_int_index.lookup ?_
  refine call_meets F.slot_int_rmul (typeIs_int s j t) F.entry_int_rmul (F.args_int_rmul_2 _ _) (int___rmul___int_list j t a us.toArray m) ⟨e, rfl, ⟨_, e, rfl⟩, ?_⟩
  refine call_meets F.slot_list_mul ⟨_, e, rfl⟩ F.entry_list_mul (F.args_list_mul_2 _ _) (AutoListH.list___mul___list_int_3 a us.toArray m j t g3 g2 g4) ⟨e, ?_⟩
  rw [g6]
  refine ⟨.ref _, _, I.lnew (t' := s.toks) (r.rep j.toNat) ?_, rfl, q _ I.fresh⟩
  rw [PyProof.Rows.lm_len_rep_flat, Nat.mul_comm]
  exact hz

/-- tuple + tuple -/
theorem cat_tups {a b : Addr} {xs ys : List V} (I : Inv X pins σ H s) (ha : SqT X.K H a xs) (hb : SqT X.K H b ys) (hz : xs.length + ys.length ≤ sizeLine) (q0 : xs = [] → Q (.ref b) H) (q1 : ys = [] → Q (.ref a) H)
    (q : ∀ p, H p = none → Q (.ref p) (upd H p (.tup (xs ++ ys)))) :
    wpAny (model X.prog X.w) X.A (binaryOp .Add (.ref a) (.ref b)) (EP X pins σ Q) X.xe s := by
  by_cases h : xs = []
  · subst h
    obtain ⟨its, r, ⟨⟨cls, dd, data, sl⟩, ho, hc, n, hd⟩, _⟩ := I.tuple ha
    obtain ⟨its2, r2, ⟨⟨cls2, dd2, data2, sl2⟩, ho2, hc2, n2, hd2⟩, _⟩ := I.tuple hb
    simp only at hc hd hc2 hd2
    subst hc hd hc2 hd2
    cases r
    exact concat_meets ⟨_, ho, rfl⟩ ⟨_, ho2, rfl⟩ noFill_tuple_add seq_tuple_add PySem.F.slot_tuple_add PySem.F.entry_tuple_add (PySem.F.args_tuple_add_2 _ _)
      (tuple_addW0 a b _ its2.toArray n n2 dd dd2 sl sl2 (by simp)) ⟨ho, ho2, ⟨.ref b, H, I.tok _, rfl, q0 rfl⟩⟩
  · exact op_catT pins s σ H (.ref a) (.ref b) _ _ Q I rfl rfl ⟨a, b, xs, ys, rfl, rfl, ha, hb, h, hz, q1, fun _ => q⟩

theorem natAbs_log {i : Int} {k : Nat} (h : i.natAbs < 2 ^ k) (hk : 0 < k) : i.natAbs.log2 < k := PySem.Flt.log2_lt_of hk h

/-- a op b -/
theorem opD_run {o : Operator} {x y z : D} (e : opD o x y = some z) (I : Inv X pins σ H s) (g : Good X.K S μ H) (hx : Seen X.K S μ H x v) (hy : Seen X.K S μ H y w) (r1 : RelV v u1) (r2 : RelV w u2) (k : Cont X.K S μ H z Q) :
    wpAny (model X.prog X.w) X.A (binaryOp o u1 u2) (EP X pins σ Q) X.xe s := by
  unfold opD at e
  split at e
  · cases e
    cases (show v = V.int _ from hx); cases (show w = V.int _ from hy)
    exact op_add pins s σ H _ _ u1 u2 Q I r1 r2 ⟨_, _, rfl, rfl, cont_here g k rfl⟩
  · cases e
    cases (show v = V.int _ from hx); cases (show w = V.int _ from hy)
    exact op_sub pins s σ H _ _ u1 u2 Q I r1 r2 ⟨_, _, rfl, rfl, cont_here g k rfl⟩
  · split at e
    · rename_i h
      cases e
      rw [Bool.or_eq_true, Bool.or_eq_true, Bool.and_eq_true, decide_eq_true_eq, decide_eq_true_eq, decide_eq_true_eq, decide_eq_true_eq] at h
      cases (show v = V.int _ from hx); cases (show w = V.int _ from hy)
      rcases h with h | h
      · exact op_mul pins s σ H _ _ u1 u2 Q I r1 r2 ⟨_, _, rfl, rfl, h.elim (fun z => .inl ⟨by omega, by omega⟩) (fun z => .inr ⟨by omega, by omega⟩), cont_here g k rfl⟩
      exact op_mulW pins s σ H _ _ u1 u2 Q I r1 r2 ⟨_, _, rfl, rfl, wide_mul h.1 h.2 (by decide) (by decide) (by decide), cont_here g k rfl⟩
    · cases e
  · split at e
    · rename_i h
      cases e
      rw [Bool.and_eq_true, decide_eq_true_eq, decide_eq_true_eq] at h
      cases (show v = V.int _ from hx); cases (show w = V.int _ from hy)
      exact op_fdivW pins s σ H _ _ u1 u2 Q I r1 r2 ⟨_, _, rfl, rfl, wide_div h.1 h.2 (by decide) (by decide), cont_here g k rfl⟩
    · cases e
  · split at e
    · rename_i h
      cases e
      rw [decide_eq_true_eq] at h
      cases (show v = V.int _ from hx); cases (show w = V.int _ from hy)
      exact op_mod pins s σ H _ _ u1 u2 Q I r1 r2 ⟨_, _, rfl, rfl, h, cont_here g k rfl⟩
    · cases e
  · split at e
    · rename_i h
      cases e
      rw [Bool.and_eq_true, Bool.and_eq_true, decide_eq_true_eq, decide_eq_true_eq, decide_eq_true_eq] at h
      cases (show v = V.int _ from hx); cases (show w = V.int _ from hy)
      exact op_pow pins s σ H _ _ u1 u2 Q I r1 r2 ⟨_, _, rfl, rfl, ⟨h.1.1, by have := h.1.2; omega, h.2⟩, cont_here g k rfl⟩
    · cases e
  · split at e
    · rename_i h
      cases e
      cases (show v = V.str _ from hx); cases (show w = V.str _ from hy)
      exact op_add_str pins s σ H _ _ u1 u2 Q I r1 r2 ⟨_, _, rfl, rfl, small_line h, cont_here g k rfl⟩
    · cases e
  · split at e
    · rename_i h
      cases e
      obtain ⟨a, vs, rfl, qa, ra⟩ := hx
      obtain ⟨b, ws, rfl, qb, rb⟩ := hy
      cases r1; cases r2
      have hl := small_line h
      rw [ra.length, rb.length] at hl
      refine cat_tups I qa qb hl (fun z => ?_) (fun z => ?_) (cont_tup g k (ra.append rb))
      · subst z
        have e0 := ra.length
        rw [List.length_nil, List.length_eq_zero_iff] at e0
        subst e0
        exact cont_here g k ⟨b, ws, rfl, qb, rb⟩
      · subst z
        have e0 := rb.length
        rw [List.length_nil, List.length_eq_zero_iff] at e0
        subst e0
        exact cont_here g k ⟨a, vs, rfl, qa, by rw [List.append_nil]; exact ra⟩
    · cases e
  · split at e
    · rename_i h
      cases e
      obtain ⟨a, vs, rfl, qa, ra⟩ := hx
      obtain ⟨b, ws, rfl, qb, rb⟩ := hy
      cases r1; cases r2
      have hl := small_line h
      rw [ra.length, rb.length] at hl
      exact cat_lists I qa qb hl (cont_lst g k (ra.append rb))
    · cases e
  · split at e
    · rename_i h
      cases e
      rw [Bool.and_eq_true, Bool.and_eq_true, decide_eq_true_eq, decide_eq_true_eq] at h
      obtain ⟨a, vs, rfl, qa, ra⟩ := hx
      cases (show w = V.int _ from hy)
      cases r1
      obtain ⟨t, rfl⟩ := r2
      have hl := small_line h.1
      rw [ra.length] at hl
      exact times_list I qa h.2.1 h.2.2 hl (cont_lst g k (ra.many _))
    · cases e
  · cases e

/-- == of data -/
theorem eqD_run (hu : X.A.units + 190 < cLine) {x y : D} (ox : x.ok = true) (oy : y.ok = true) (I : Inv X pins σ H s) (hx : Seen X.K S μ H x v) (hy : Seen X.K S μ H y w) (r1 : RelV v u1) (r2 : RelV w u2) (q : Q (.bl (D.eqv x y)) H) :
    wpAny (model X.prog X.w) X.A (compareOp .Eq u1 u2) (EP X pins σ Q) X.xe s := by
  unfold D.ok at ox oy
  rw [Bool.and_eq_true, Bool.and_eq_true, decide_eq_true_eq] at ox oy
  obtain ⟨as, d1⟩ := Dp.reads I x.py v u1 (hx.dp ox.1.1) r1
  obtain ⟨bs, d2⟩ := Dp.reads I y.py w u2 (hy.dp oy.1.1) r2
  refine SeqAt.compareEq_reads d1 d2 ox.1.2 oy.1.2 ?_ ⟨.bl _, H, I, rfl, q⟩
  have h1 := ox.2
  have h2 : min x.py.depth y.py.depth ≤ x.py.depth := Nat.min_le_left _ _
  omega
theorem neD_run (hu : X.A.units + 190 < cLine) {x y : D} (ox : x.ok = true) (oy : y.ok = true) (I : Inv X pins σ H s) (hx : Seen X.K S μ H x v) (hy : Seen X.K S μ H y w) (r1 : RelV v u1) (r2 : RelV w u2) (q : Q (.bl (!D.eqv x y)) H) :
    wpAny (model X.prog X.w) X.A (compareOp .NotEq u1 u2) (EP X pins σ Q) X.xe s := by
  unfold D.ok at ox oy
  rw [Bool.and_eq_true, Bool.and_eq_true, decide_eq_true_eq] at ox oy
  obtain ⟨as, d1⟩ := Dp.reads I x.py v u1 (hx.dp ox.1.1) r1
  obtain ⟨bs, d2⟩ := Dp.reads I y.py w u2 (hy.dp oy.1.1) r2
  refine SeqAt.compareNe_reads d1 d2 ox.1.2 oy.1.2 ?_ ⟨.bl _, H, I, rfl, q⟩
  have h1 := ox.2
  have h2 : min x.py.depth y.py.depth ≤ x.py.depth := Nat.min_le_left _ _
  omega

theorem Seen.flat {x : D} (f : x.flat = true) (h : Seen X.K S μ H x v) : Rep X.K S μ H x v := by
  cases x with
  | lst _ => cases f
  | tup _ => cases f
  | ref _ => cases f
  | non => exact h
  | bl _ => exact h
  | int _ => exact h
  | str _ => exact h
theorem one_sign {c : Str} (h : (c.length == 1) = true) : c = ⟨#[c.cps.getD 0 0]⟩ := by
  obtain ⟨cps⟩ := c
  have e : cps.size = 1 := by simpa [Str.length] using h
  obtain ⟨l⟩ := cps
  simp only [List.size_toArray] at e
  match l, e with
  | [a], _ => rfl
/-- a op b, compared -/
theorem cmpD_run (hu : X.A.units + 190 < cLine) {o : CmpOp} {x y : D} {b : Bool} (e : cmpD o x y = some b) (I : Inv X pins σ H s) (hx : Seen X.K S μ H x v) (hy : Seen X.K S μ H y w) (r1 : RelV v u1) (r2 : RelV w u2) (q : Q (.bl b) H) :
    wpAny (model X.prog X.w) X.A (compareOp o u1 u2) (EP X pins σ Q) X.xe s := by
  cases o with
  | Eq =>
    simp only [cmpD] at e
    split at e
    · cases e
      cases (show v = V.int _ from hx); cases (show w = V.int _ from hy)
      refine op_eq pins s σ H _ _ u1 u2 Q I r1 r2 ⟨rfl, ?_⟩
      rw [show decide (V.int _ = V.int _) = decide (_ = _) from decide_eq_decide.mpr ⟨fun z => V.int.inj z, fun z => congrArg V.int z⟩]
      exact q
    · cases e
      cases (show v = V.str _ from hx); cases (show w = V.str _ from hy)
      refine op_eq pins s σ H _ _ u1 u2 Q I r1 r2 ⟨rfl, ?_⟩
      rw [show decide (V.str _ = V.str _) = decide (_ = _) from decide_eq_decide.mpr ⟨fun z => V.str.inj z, fun z => congrArg V.str z⟩]
      exact q
    · split at e
      · rename_i h
        cases e
        rw [Bool.and_eq_true] at h
        exact eqD_run hu h.1 h.2 I hx hy r1 r2 q
      · cases e
  | NotEq =>
    simp only [cmpD] at e
    split at e
    · cases e
      cases (show v = V.int _ from hx); cases (show w = V.int _ from hy)
      refine op_ne pins s σ H _ _ u1 u2 Q I r1 r2 ⟨rfl, ?_⟩
      rw [show decide (V.int _ = V.int _) = decide (_ = _) from decide_eq_decide.mpr ⟨fun z => V.int.inj z, fun z => congrArg V.int z⟩]
      exact q
    · cases e
      cases (show v = V.str _ from hx); cases (show w = V.str _ from hy)
      refine op_ne pins s σ H _ _ u1 u2 Q I r1 r2 ⟨rfl, ?_⟩
      rw [show decide (V.str _ = V.str _) = decide (_ = _) from decide_eq_decide.mpr ⟨fun z => V.str.inj z, fun z => congrArg V.str z⟩]
      exact q
    · split at e
      · rename_i h
        cases e
        rw [Bool.and_eq_true] at h
        exact neD_run hu h.1 h.2 I hx hy r1 r2 q
      · cases e
  | Lt =>
    simp only [cmpD] at e
    split at e
    · cases e
      cases (show v = V.int _ from hx); cases (show w = V.int _ from hy)
      exact op_lt pins s σ H _ _ u1 u2 Q I r1 r2 ⟨_, _, rfl, rfl, q⟩
    · cases e
  | LtE =>
    simp only [cmpD] at e
    split at e
    · cases e
      cases (show v = V.int _ from hx); cases (show w = V.int _ from hy)
      exact op_le pins s σ H _ _ u1 u2 Q I r1 r2 ⟨_, _, rfl, rfl, q⟩
    · cases e
  | Gt =>
    simp only [cmpD] at e
    split at e
    · cases e
      cases (show v = V.int _ from hx); cases (show w = V.int _ from hy)
      exact op_gt pins s σ H _ _ u1 u2 Q I r1 r2 ⟨_, _, rfl, rfl, q⟩
    · cases e
  | GtE =>
    simp only [cmpD] at e
    split at e
    · cases e
      cases (show v = V.int _ from hx); cases (show w = V.int _ from hy)
      exact op_ge pins s σ H _ _ u1 u2 Q I r1 r2 ⟨_, _, rfl, rfl, q⟩
    · cases e
  | Is =>
    simp only [cmpD] at e
    split at e
    · cases e
      cases (show v = V.bl _ from hx); cases (show w = V.bl _ from hy)
      exact op_isBl pins s σ H _ _ u1 u2 Q I r1 r2 ⟨_, _, rfl, rfl, q⟩
    · cases e
      cases (show v = V.non from hx); cases (show w = V.non from hy)
      exact op_isN pins s σ H _ _ u1 u2 Q I r1 r2 ⟨rfl, q⟩
    · rename_i hne
      cases e
      cases (show w = V.non from hy)
      have hv : v ≠ V.non := by
        intro z
        subst z
        cases x with
        | non => exact hne rfl
        | bl _ => cases (show V.non = V.bl _ from hx)
        | int _ => cases (show V.non = V.int _ from hx)
        | str _ => cases (show V.non = V.str _ from hx)
        | tup _ => obtain ⟨_, _, e, _⟩ := hx; cases e
        | lst _ => obtain ⟨_, _, e, _⟩ := hx; cases e
        | ref _ => obtain ⟨_, e, _⟩ := hx; cases e
      exact op_isN pins s σ H _ _ u1 u2 Q I r1 r2 ⟨rfl, by rw [decide_eq_false hv]; exact q⟩
    · cases e
  | IsNot =>
    simp only [cmpD] at e
    split at e
    · cases e
      cases (show v = V.bl _ from hx); cases (show w = V.bl _ from hy)
      exact op_notBl pins s σ H _ _ u1 u2 Q I r1 r2 ⟨_, _, rfl, rfl, q⟩
    · cases e
      cases (show v = V.non from hx); cases (show w = V.non from hy)
      exact op_notN pins s σ H _ _ u1 u2 Q I r1 r2 ⟨rfl, q⟩
    · rename_i hne
      cases e
      cases (show w = V.non from hy)
      have hv : v ≠ V.non := by
        intro z
        subst z
        cases x with
        | non => exact hne rfl
        | bl _ => cases (show V.non = V.bl _ from hx)
        | int _ => cases (show V.non = V.int _ from hx)
        | str _ => cases (show V.non = V.str _ from hx)
        | tup _ => obtain ⟨_, _, e, _⟩ := hx; cases e
        | lst _ => obtain ⟨_, _, e, _⟩ := hx; cases e
        | ref _ => obtain ⟨_, e, _⟩ := hx; cases e
      exact op_notN pins s σ H _ _ u1 u2 Q I r1 r2 ⟨rfl, by rw [decide_eq_false hv]; exact q⟩
    · cases e
  | In =>
    simp only [cmpD] at e
    split at e
    · split at e
      · rename_i h
        cases e
        rw [Bool.and_eq_true] at h
        obtain ⟨a, vs, rfl, qa, ra⟩ := hy
        have f := flat_rep h.1 (hx.flat h.1)
        refine op_in_seq pins s σ H _ _ u1 u2 Q I r1 r2 ⟨a, vs, rfl, .inl qa.l, f.1, flats_rep h.2 ra, ?_⟩
        rw [if_neg Bool.false_ne_true, inV_flat h.1 (hx.flat h.1) h.2 ra]
        exact q
      · cases e
    · split at e
      · rename_i h
        cases e
        rw [Bool.and_eq_true] at h
        obtain ⟨a, vs, rfl, qa, ra⟩ := hy
        have f := flat_rep h.1 (hx.flat h.1)
        refine op_in_seq pins s σ H _ _ u1 u2 Q I r1 r2 ⟨a, vs, rfl, .inr qa, f.1, flats_rep h.2 ra, ?_⟩
        rw [if_neg Bool.false_ne_true, inV_flat h.1 (hx.flat h.1) h.2 ra]
        exact q
      · cases e
    · split at e
      · split at e
        · rename_i h
          cases e
          cases (show v = V.str _ from hx); cases (show w = V.str _ from hy)
          exact op_in_sign pins s σ H _ _ u1 u2 Q I r1 r2 ⟨_, _, congrArg V.str (one_sign h), rfl, q⟩
        · cases e
      · cases e
    · cases e
  | NotIn =>
    simp only [cmpD] at e
    split at e
    · split at e
      · rename_i h
        cases e
        rw [Bool.and_eq_true] at h
        obtain ⟨a, vs, rfl, qa, ra⟩ := hy
        have f := flat_rep h.1 (hx.flat h.1)
        refine op_notIn_seq pins s σ H _ _ u1 u2 Q I r1 r2 ⟨a, vs, rfl, .inl qa.l, f.1, flats_rep h.2 ra, ?_⟩
        rw [if_pos rfl, inV_flat h.1 (hx.flat h.1) h.2 ra]
        exact q
      · cases e
    · split at e
      · rename_i h
        cases e
        rw [Bool.and_eq_true] at h
        obtain ⟨a, vs, rfl, qa, ra⟩ := hy
        have f := flat_rep h.1 (hx.flat h.1)
        refine op_notIn_seq pins s σ H _ _ u1 u2 Q I r1 r2 ⟨a, vs, rfl, .inr qa, f.1, flats_rep h.2 ra, ?_⟩
        rw [if_pos rfl, inV_flat h.1 (hx.flat h.1) h.2 ra]
        exact q
      · cases e
    · split at e
      · split at e
        · rename_i h
          cases e
          cases (show v = V.str _ from hx); cases (show w = V.str _ from hy)
          exact op_notIn_sign pins s σ H _ _ u1 u2 Q I r1 r2 ⟨_, _, congrArg V.str (one_sign h), rfl, q⟩
        · cases e
      · cases e
    · cases e

theorem Reps.atI {ds : List D} {vs : List V} (h : Reps X.K S μ H ds vs) {i : Int} {d : D} (e : atI ds i = some d) : ∃ v, L2.atI vs i = some v ∧ Rep X.K S μ H d v := by
  unfold L2.atI at e ⊢
  rw [← h.length]
  cases q : ixN ds.length i with
  | none => rw [q] at e; cases e
  | some j =>
    rw [q] at e
    exact h.get e
/-- x[i] -/
theorem ixD_run {value slice : Expr} {x i z : D} (e : ixD x i = some z) (I : Inv X pins σ H s) (g : Good X.K S μ H) (hx : Seen X.K S μ H x v) (hi : Rep X.K S μ H i w) (r1 : RelV v u1) (r2 : RelV w u2) (k : Cont X.K S μ H z Q)
    (hs : subscripted slice false u1 u2 = operate [u1, u2] (getItem u1 u2)) : wpAny (model X.prog X.w) X.A (subscriptTail value slice u1 u2) (EP X pins σ Q) X.xe s := by
  unfold ixD at e
  split at e
  · cases (show w = V.int _ from hi)
    obtain ⟨a, vs, rfl, qa, ra⟩ := hx
    obtain ⟨z', h1, h2⟩ := ra.atI e
    exact ix_list value slice pins s σ H _ _ u1 u2 Q I r1 r2 ⟨a, vs, _, z', rfl, rfl, qa.l, h1, cont_here g k h2⟩ hs
  · cases (show w = V.int _ from hi)
    obtain ⟨a, vs, rfl, qa, ra⟩ := hx
    obtain ⟨z', h1, h2⟩ := ra.atI e
    exact ix_tup value slice pins s σ H _ _ u1 u2 Q I r1 r2 ⟨a, vs, _, z', rfl, rfl, qa, h1, cont_here g k h2⟩ hs
  · cases (show w = V.int _ from hi)
    cases (show v = V.str _ from hx)
    split at e
    · rename_i h
      cases q : L2.atI _ _ with
      | none => rw [q] at e; cases e
      | some c =>
        rw [q] at e
        cases e
        exact ix_str value slice pins s σ H _ _ u1 u2 Q I r1 r2 ⟨_, _, c, rfl, rfl, small_line h, q, cont_here g k rfl⟩ hs
    · cases e
  · cases e
end
end Iv

set_option Elab.async false
set_option linter.all false
set_option maxRecDepth 100000
set_option maxHeartbeats 1000000
namespace Iv
open PySem PySem.Spec PyProof.Rows L2

section
variable {X : Cx} {pins : List (Addr × Obj)} {s : Shared} {σ : L2.St} {H : Hp} {S : Sto} {μ : Mu} {Q : VK}
/-- an item's value -/
def ItemR (K : PySem.W.Frag) (S : Sto) (μ : Mu) (H : Hp) (u : Value) (d : D) : Prop := ∃ v, RelV v u ∧ Rep K S μ H d v
theorem each_reps {K : PySem.W.Frag} : ∀ {us : List Value} {vs : List V} {ds : List D}, Vals vs us → Reps K S μ H ds vs → PySem.W.EachIs (ItemR K S μ H) us ds
  | us, vs, [], r, h => by
    cases (show vs = [] from h)
    cases r
    exact .nil
  | us, vs, d :: ds, r, ⟨v, vs', e, h1, h2⟩ => by
    subst e
    cases r with
    | cons r1 r2 => exact .cons ⟨v, r1, h1⟩ (each_reps r2 h2)
theorem reps_each {K : PySem.W.Frag} : ∀ {us : List Value} {ds : List D}, PySem.W.EachIs (ItemR K S μ H) us ds → ∃ vs, Vals vs us ∧ Reps K S μ H ds vs
  | _, _, .nil => ⟨[], .nil, rfl⟩
  | _, _, .cons ⟨v, r1, h1⟩ t => by
    obtain ⟨vs, r2, h2⟩ := reps_each t
    exact ⟨v :: vs, .cons r1 r2, v, vs, rfl, h1, h2⟩
theorem sortD_eq (xs : List D) : sortD xs = xs.mergeSort (PySem.W.dataLe false D.py) := by
  rw [PySem.W.dataLe_eq]
  rfl
theorem sortD_len (xs : List D) : (sortD xs).length = xs.length := (List.mergeSort_perm _ _).length_eq
/-- sorted of a list -/
theorem sort_run {a : Addr} {xs : List D} {ws : List V} {us : List Value} (hu : X.A.units + 200 < cLine) (h : sortOk xs = true) (I : Inv X pins σ H s) (r : Vals [V.ref a] us) (qa : SqP X.K H a ws) (ra : Reps X.K S μ H xs ws)
    (k : ∀ ws', Reps X.K S μ H (sortD xs) ws' → ∀ p, H p = none → Q (.ref p) (upd H p (.lst ws'))) : wpAny (model X.prog X.w) X.A (call (.builtin "sorted") us) (EP X pins σ Q) X.xe s := by
  unfold sortOk at h
  rw [Bool.and_eq_true, Bool.and_eq_true, Bool.and_eq_true, Bool.and_eq_true] at h
  obtain ⟨⟨⟨⟨h1, h2⟩, h3⟩, h4⟩, h5⟩ := h
  rw [Vals.ref1 r]
  obtain ⟨z, its, n, rv, hl, e⟩ := qa.plain I
  have hL : s.heap.IsList a its.toArray := ⟨_, e, rfl, n, rfl⟩
  have E1 := each_reps (S := S) (μ := μ) rv ra
  have er : PySem.W.EachIs (fun v d => ∃ as, PySem.Reads s.heap v d.py as) its xs := by
    refine (PySem.W.each_mem E1).mono fun u d ⟨⟨v, r1, r2⟩, hd⟩ => ?_
    have hp : D.pure d = true := by
      have : ∀ {l : List D}, D.pures l = true → ∀ x ∈ l, D.pure x = true := by
        intro l
        induction l with
        | nil => intro _ x hx; cases hx
        | cons y l ih =>
          intro hl x hx
          have hl' : (D.pure y && D.pures l) = true := hl
          rw [Bool.and_eq_true] at hl'
          rcases List.mem_cons.mp hx with rfl | hx
          · exact hl'.1
          · exact ih hl'.2 x hx
      exact this h2 d hd
    exact Dp.reads I d.py v u (Rep.dp hp r2) r1
  have hal : PySem.W.AllAlike (xs.map D.py) := by
    intro d hd d' hd'
    obtain ⟨b, hb, rfl⟩ := List.mem_map.mp hd
    obtain ⟨b', hb', rfl⟩ := List.mem_map.mp hd'
    exact List.all_eq_true.mp (List.all_eq_true.mp h3 b hb) b' hb'
  have hd0 : ∀ b, b ∈ xs → b.py.depth ≤ 100 := fun b hb => of_decide_eq_true (List.all_eq_true.mp h4 b hb)
  have hz : xs.length ≤ sizeLine := small_line h1
  have fin : ∀ out : List Value, out.length = xs.length → PySem.W.EachIs (ItemR X.K S μ H) out (xs.mergeSort (PySem.W.dataLe false D.py)) → EP X pins σ Q (.ref (s.heap.objs.size + 1)) { s with heap := sortedAll s.heap its (List.toArray out) } := fun out ol eo => by
    rw [← sortD_eq] at eo
    obtain ⟨ws', rw', rp⟩ := reps_each eo
    obtain ⟨ep, he'⟩ := PyProof.Rows.sortedAll_at s.heap its out.toArray
    exact ⟨.ref _, upd H (s.heap.objs.size + 1) (.lst ws'), I.laid (t' := s.toks) (fun _ _ => PyProof.Rows.sortedAll_old) (Nat.le_succ _) ⟨by rw [rw'.length, ol]; exact hz, out, ep, rw', he'⟩, rfl, k ws' rp _ (I.hok.fresh (Nat.le_succ _))⟩
  rw [Bool.or_eq_true, Bool.and_eq_true] at h5
  rcases h5 with ⟨h5, h6⟩ | h5
  · have er' : PySem.W.EachIs (fun v d => ∃ as, PySem.Reads (PySem.W.sortingHeap (PySem.W.copyHeap s.heap its) (s.heap.objs.size + 1) its) v d.py as) its xs := er.mono fun _ _ ⟨as, q⟩ => ⟨as, PyProof.Rows.Reads.keeps (fun _ _ => PySem.W.sorting_copy_old) q⟩
    refine PySem.W.sorted_vals hL (sorts_tups0 (s := { s with heap := PySem.W.sortingHeap (PySem.W.copyHeap s.heap its) (s.heap.objs.size + 1) its }) (PySem.W.each_map (R := fun v d => ∃ as, PySem.Reads (PySem.W.sortingHeap (PySem.W.copyHeap s.heap its) (s.heap.objs.size + 1) its) v d as) D.py er') hal (fun d hd => ?_) ?_ (fun d hd => ?_)) (by rw [E1.length]; exact hz)
      (fin _ (by rw [PySem.W.sortVals_length false rfl]; exact E1.length) (PySem.W.sortVals_data false E1 er' hal))
    · obtain ⟨b, hb, rfl⟩ := List.mem_map.mp hd
      have q := List.all_eq_true.mp h6 b hb
      cases b with
      | tup l => exact ⟨_, rfl⟩
      | _ => cases q
    · cases xs with
      | nil => cases h5
      | cons b xs =>
        cases b with
        | tup l =>
          cases l with
          | nil => exact ⟨_, rfl⟩
          | cons _ _ => cases h5
        | _ => cases h5
    · obtain ⟨b, hb, rfl⟩ := List.mem_map.mp hd
      have := hd0 b hb
      show X.A.units + 1 + 1 + _ < cLine
      omega
  · refine PySem.W.sorted_data hL E1 er hal (.inr fun d hd => ?_) hz (fun b hb => ?_) fin
    · obtain ⟨b, hb, rfl⟩ := List.mem_map.mp hd
      have q := List.all_eq_true.mp h5 b hb
      cases b with
      | int i => exact ⟨by simp [D.py], fun xs => by simp [D.py]⟩
      | str i => exact ⟨by simp [D.py], fun xs => by simp [D.py]⟩
      | _ => cases q
    · have := hd0 b hb
      omega
end
end Iv

set_option Elab.async false
set_option linter.all false
set_option maxRecDepth 100000
set_option maxHeartbeats 1000000
namespace Iv
open PySem PySem.Spec PyProof.Rows L2

section
variable {X : Cx} {pins : List (Addr × Obj)} {s : Shared} {σ : L2.St} {H : Hp} {S : Sto} {μ : Mu} {v w : V} {u1 u2 : Value} {Q : VK}

/-- slices -/
def rSlI (K : PySem.W.Frag) : V → Option Int → Option Int → Hp → VK → Prop := fun v lo hi H Q => ∃ S μ x z, Good K S μ H ∧ Seen K S μ H x v ∧ slD x lo hi = some z ∧ Cont K S μ H z Q
theorem sl_I : SlR X (rSlI X.K) := by
  intro pins s σ H v u vl vu lo hi sl Q I rx hs pl pu h
  obtain ⟨S, μ, x, z, g, hx, e, k⟩ := h
  unfold slD at e
  split at e
  · cases e
    obtain ⟨a, vs, rfl, qa, ra⟩ := hx
    exact sl_list pins s σ H _ u vl vu lo hi sl Q I rx hs pl pu ⟨a, vs, rfl, qa.l, cont_lst g k (ra.cut lo hi)⟩
  · rename_i xs
    cases e
    obtain ⟨a, vs, rfl, qa, ra⟩ := hx
    refine sl_tupA pins s σ H _ u vl vu lo hi sl Q I rx hs pl pu ⟨a, vs, rfl, qa, fun hw => ?_, fun _ => cont_tup g k (ra.cut lo hi)⟩
    have ew : cutV vs lo hi = vs := by
      unfold cutV
      rw [hw.1, hw.2, List.drop_zero, Nat.sub_zero, List.take_length]
    have rc := ra.cut lo hi
    rw [ew] at rc
    exact cont_here g k ⟨a, vs, rfl, qa, rc⟩
  · split at e
    · rename_i h
      cases e
      cases (show v = V.str _ from hx)
      exact sl_str pins s σ H _ u vl vu lo hi sl Q I rx hs pl pu ⟨_, rfl, small_line h, cont_here g k rfl⟩
    · cases e
  · cases e

def Seens (K : PySem.W.Frag) (S : Sto) (μ : Mu) (H : Hp) : List D → List V → Prop
  | [], vs => vs = []
  | d :: ds, vs => ∃ v r, vs = v :: r ∧ Seen K S μ H d v ∧ Seens K S μ H ds r
theorem seeAll_ok {K : PySem.W.Frag} (g : Good K S μ H) : ∀ {ds es : List D} {vs : List V}, Reps K S μ H ds vs → seeAll S ds = some es → Seens K S μ H es vs
  | [], _, _, h, e => by cases e; exact h
  | d :: ds, es, _, ⟨v, r, e1, h1, h2⟩, e => by
    unfold seeAll at e
    split at e
    · rename_i y ys e2 e3
      cases e
      exact ⟨v, r, e1, see_ok g h1 e2, seeAll_ok g h2 e3⟩
    · cases e
theorem reps_bls {K : PySem.W.Frag} : ∀ {ds : List D} {bs : List Bool} {vs : List V}, Reps K S μ H ds vs → bls? ds = some bs → vs = bs.map V.bl
  | [], _, _, h, e => by cases e; exact h
  | .bl b :: ds, bs, _, ⟨v, r, e1, h1, h2⟩, e => by
    simp only [bls?] at e
    cases q : bls? ds with
    | none => rw [q] at e; cases e
    | some cs =>
      rw [q] at e
      cases e
      subst e1
      rw [reps_bls h2 q]
      cases (show v = V.bl b from h1)
      rfl
  | .non :: ds, _, _, _, e => by cases e
  | .int _ :: ds, _, _, _, e => by cases e
  | .str _ :: ds, _, _, _, e => by cases e
  | .tup _ :: ds, _, _, _, e => by cases e
  | .lst _ :: ds, _, _, _, e => by cases e
  | .ref _ :: ds, _, _, _, e => by cases e
theorem reps_ints {K : PySem.W.Frag} : ∀ {ds : List D} {bs : List Int} {vs : List V}, Reps K S μ H ds vs → ints? ds = some bs → vs = bs.map V.int
  | [], _, _, h, e => by cases e; exact h
  | .int b :: ds, bs, _, ⟨v, r, e1, h1, h2⟩, e => by
    simp only [ints?] at e
    cases q : ints? ds with
    | none => rw [q] at e; cases e
    | some cs =>
      rw [q] at e
      cases e
      subst e1
      rw [reps_ints h2 q]
      cases (show v = V.int b from h1)
      rfl
  | .non :: ds, _, _, _, e => by cases e
  | .bl _ :: ds, _, _, _, e => by cases e
  | .str _ :: ds, _, _, _, e => by cases e
  | .tup _ :: ds, _, _, _, e => by cases e
  | .lst _ :: ds, _, _, _, e => by cases e
  | .ref _ :: ds, _, _, _, e => by cases e
theorem reps_strs {K : PySem.W.Frag} : ∀ {ds : List D} {bs : List Str} {vs : List V}, Reps K S μ H ds vs → strs? ds = some bs → vs = bs.map V.str
  | [], _, _, h, e => by cases e; exact h
  | .str b :: ds, bs, _, ⟨v, r, e1, h1, h2⟩, e => by
    simp only [strs?] at e
    cases q : strs? ds with
    | none => rw [q] at e; cases e
    | some cs =>
      rw [q] at e
      cases e
      subst e1
      rw [reps_strs h2 q]
      cases (show v = V.str b from h1)
      rfl
  | .non :: ds, _, _, _, e => by cases e
  | .bl _ :: ds, _, _, _, e => by cases e
  | .int _ :: ds, _, _, _, e => by cases e
  | .tup _ :: ds, _, _, _, e => by cases e
  | .lst _ :: ds, _, _, _, e => by cases e
  | .ref _ :: ds, _, _, _, e => by cases e

def biV : BI → Value
  | .len => .builtin "len"
  | .int => .type "int"
  | .abs => .builtin "abs"
  | .tuple => .type "tuple"
  | .list => .type "list"
  | .all => .builtin "all"
  | .any => .builtin "any"
  | .sum => .builtin "sum"
  | .max2 => .builtin "max"
  | .str => .type "str"
  | .repr => .builtin "repr"
  | .sorted => .builtin "sorted"
def rBi (K : PySem.W.Frag) (b : BI) : List V → Hp → VK → Prop := fun vs H Q => ∃ S μ ys z, Good K S μ H ∧ Seens K S μ H ys vs ∧ biD b ys = some z ∧ Cont K S μ H z Q
theorem seens1 {K : PySem.W.Frag} {d : D} {vs : List V} (h : Seens K S μ H [d] vs) : ∃ v, vs = [v] ∧ Seen K S μ H d v := by
  obtain ⟨v, r, e, h1, h2⟩ := h
  cases (show r = [] from h2)
  exact ⟨v, e, h1⟩
theorem seens2 {K : PySem.W.Frag} {d d' : D} {vs : List V} (h : Seens K S μ H [d, d'] vs) : ∃ v w, vs = [v, w] ∧ Seen K S μ H d v ∧ Seen K S μ H d' w := by
  obtain ⟨v, r, e, h1, h2⟩ := h
  obtain ⟨w, e2, h3⟩ := seens1 h2
  exact ⟨v, w, by rw [e, e2], h1, h3⟩
mutual
theorem noDict : ∀ {d : D}, d.py.hasDict = false
  | .non => by simp [D.py, PyData.hasDict]
  | .bl _ => by simp [D.py, PyData.hasDict]
  | .int _ => by simp [D.py, PyData.hasDict]
  | .str _ => by simp [D.py, PyData.hasDict]
  | .ref _ => by simp [D.py, PyData.hasDict]
  | .tup ds => by rw [D.py, PyData.hasDict]; exact noDicts
  | .lst ds => by rw [D.py, PyData.hasDict]; exact noDicts
theorem noDicts : ∀ {ds : List D}, PyData.hasDictAll (D.pys ds) = false
  | [] => by simp [D.pys, PyData.hasDictAll]
  | d :: ds => by rw [D.pys, PyData.hasDictAll, noDict, noDicts]; rfl
end
theorem repr_run {d : D} {us : List Value} (hg : X.A.guards = some []) (hu : X.A.units + 200 < cLine) (h : D.shows d = true) (I : Inv X pins σ H s) (r : Vals [v] us) (hv : Seen X.K S μ H d v) (k : Cont X.K S μ H (.str d.py.shown) Q) (g : Good X.K S μ H)
    (hd : ∃ a, v = .ref a := by first | exact ⟨_, hv.choose_spec.choose_spec.1⟩ | exact ⟨_, hv.choose_spec.choose_spec.1⟩) : wpAny (model X.prog X.w) X.A (call (.builtin "repr") us) (EP X pins σ Q) X.xe s := by
  obtain ⟨a, rfl⟩ := hd
  unfold D.shows at h
  rw [Bool.and_eq_true, Bool.and_eq_true, Bool.and_eq_true, Bool.and_eq_true, decide_eq_true_eq, decide_eq_true_eq] at h
  obtain ⟨⟨⟨⟨h1, h2⟩, h3⟩, h4⟩, h5⟩ := h
  obtain ⟨u, rfl, ru⟩ := r.one
  cases (show u = Value.ref a from ru)
  obtain ⟨as, d1⟩ := Dp.reads I d.py (.ref a) (.ref a) (hv.dp h1) rfl
  refine PySem.repr_of_reads' d1 h2 (fun z => by rw [noDict] at z; cases z) hg (by omega) (fun _ _ q => q) (fun h' u tk hk => ⟨.str _, H, I.kept (t' := tk) hk, ⟨_, rfl⟩, cont_here g k rfl⟩) ?_
  rw [sizeLine_eq]; omega
/-- list(text): its signs -/
theorem signs_reps {K : PySem.W.Frag} : ∀ cs : List Nat, Reps K S μ H (cs.map fun c => D.str ⟨#[c]⟩) (cs.map fun c => V.str ⟨#[c]⟩)
  | [] => rfl
  | _ :: cs => ⟨_, _, rfl, rfl, signs_reps cs⟩
theorem paired_ix {α β : Type} {F : α → β → Prop} : ∀ {xs : List α} {ys : List β}, xs.length = ys.length → (∀ (i : Nat) (x : α) (y : β), xs[i]? = some x → ys[i]? = some y → F x y) → Paired F xs ys
  | [], [], _, _ => .nil
  | [], _ :: _, h, _ => by cases h
  | _ :: _, [], h, _ => by cases h
  | x :: xs, y :: ys, h, k => .cons (k 0 x y rfl rfl) (paired_ix (by simpa using h) fun i a b h1 h2 => k (i + 1) a b (by simpa using h1) (by simpa using h2))
theorem signs_raw {z : Str} {t : Tok} (hc : X.calm = true) (h : small z.length = true) (I : Inv X pins σ H s) (q : ∀ p, H p = none → Q (.ref p) (upd H p (.lst (z.cps.toList.map fun c => V.str ⟨#[c]⟩)))) :
    wpAny (model X.prog X.w) X.A (call (.type "list") [.str z t]) (EP X pins σ Q) X.xe s := by
  have hz := small_line h
  refine PySem.call_list_str (I.ok.hd hc) z t (fun h' tk acc c hk ho hit => ?_) hz
  have rv : Vals (z.cps.toList.map fun c => V.str ⟨#[c]⟩) acc.toList := by
    refine paired_ix (by rw [List.length_map, Array.length_toList, Array.length_toList, hit.1]) fun i x y hx hy => ?_
    rw [Array.getElem?_toList] at hy
    obtain ⟨cc, u, h1, h2⟩ := hit.2 i y hy
    rw [List.getElem?_map, Array.getElem?_toList, h1] at hx
    cases hx
    exact ⟨u, h2⟩
  refine ⟨.ref s.heap.objs.size, _, I.laid (t' := tk) (o := .lst (z.cps.toList.map fun c => V.str ⟨#[c]⟩)) hk (Nat.le_refl _) ⟨by rw [List.length_map]; simpa [Str.length] using hz, acc.toList, c, rv, by simpa using ho⟩, rfl, q _ I.fresh⟩
theorem signs_run {z : Str} {t : Tok} (hc : X.calm = true) (h : small z.length = true) (I : Inv X pins σ H s) (g : Good X.K S μ H) (k : Cont X.K S μ H (.lst (z.cps.toList.map fun c => .str ⟨#[c]⟩)) Q) :
    wpAny (model X.prog X.w) X.A (call (.type "list") [.str z t]) (EP X pins σ Q) X.xe s := signs_raw hc h I (cont_lst g k (signs_reps _))
theorem strs_reps {K : PySem.W.Frag} : ∀ ss : List Str, Reps K S μ H (ss.map D.str) (ss.map V.str)
  | [] => rfl
  | x :: ss => ⟨.str x, ss.map V.str, rfl, rfl, strs_reps ss⟩
theorem sort_tup_run {a : Addr} {ss : List Str} {us : List Value} (hu : X.A.units + 200 < cLine) (h : ss.length ≤ 1000) (I : Inv X pins σ H s) (r : Vals [V.ref a] us) (qa : SqT X.K H a (ss.map V.str))
    (k : ∀ p, H p = none → Q (.ref p) (upd H p (.lst ((sortS ss).map V.str)))) : wpAny (model X.prog X.w) X.A (call (.builtin "sorted") us) (EP X pins σ Q) X.xe s := by
  obtain ⟨its, rv, ⟨o, ho, hc, n, hd⟩, _⟩ := I.tuple qa
  rw [Vals.ref1 r]
  refine sorted_tup (vs := its) (ys := ss) ⟨o, ho, hc, n, hd⟩ rv.strs h (by omega) fun out ho => ?_
  obtain ⟨ep, he'⟩ := PyProof.Rows.sortedAll_at s.heap its out.toArray
  have hlen : ((sortS ss).map V.str).length ≤ sizeLine := by rw [List.length_map, (sortS_is ss).length_eq, sizeLine_eq]; omega
  exact ⟨.ref _, upd H (s.heap.objs.size + 1) (.lst ((sortS ss).map V.str)), I.laid (t' := s.toks) (fun _ _ => PyProof.Rows.sortedAll_old) (Nat.le_succ _) ⟨hlen, out, ep, vals_of_strs ho, he'⟩, rfl, k _ (I.hok.fresh (Nat.le_succ _))⟩
theorem call_bi (hc : X.calm = true) (hg : X.A.guards = some []) (hu : X.A.units + 200 < cLine) (b : BI) : CallR X (biV b) (rBi X.K b) := by
  intro pins s σ H vs us Q I r h
  obtain ⟨S, μ, ys, z, g, hs, e, k⟩ := h
  unfold biD at e
  split at e
  · cases e
    obtain ⟨v, rfl, a, ws, rfl, qa, ra⟩ := seens1 hs
    exact call_len_seq pins s σ H _ us Q I r ⟨a, ws, rfl, .inl qa.l, cont_here g k (by rw [ra.length]; rfl)⟩
  · cases e
    obtain ⟨v, rfl, a, ws, rfl, qa, ra⟩ := seens1 hs
    exact call_len_seq pins s σ H _ us Q I r ⟨a, ws, rfl, .inr qa, cont_here g k (by rw [ra.length]; rfl)⟩
  · split at e
    · rename_i h
      cases e
      obtain ⟨v, rfl, hv⟩ := seens1 hs
      cases (show v = V.str _ from hv)
      exact call_len_str pins s σ H _ us Q I r ⟨_, rfl, small_line h, cont_here g k rfl⟩
    · cases e
  · cases e
    obtain ⟨v, rfl, hv⟩ := seens1 hs
    cases (show v = V.int _ from hv)
    exact call_int1 pins s σ H _ us Q I r (.inl ⟨_, rfl, cont_here g k rfl⟩)
  · cases e
    obtain ⟨v, rfl, hv⟩ := seens1 hs
    cases (show v = V.bl _ from hv)
    exact call_int1 pins s σ H _ us Q I r (.inr ⟨_, rfl, cont_here g k rfl⟩)
  · cases e
    obtain ⟨v, rfl, hv⟩ := seens1 hs
    cases (show v = V.int _ from hv)
    exact call_abs pins s σ H _ us Q I r ⟨_, rfl, cont_here g k rfl⟩
  · cases e
    obtain ⟨v, rfl, a, ws, rfl, qa, ra⟩ := seens1 hs
    exact call_tuple_of pins s σ H _ us Q I r ⟨a, ws, rfl, .inl ⟨qa.l, cont_tup g k ra⟩⟩
  · cases e
    obtain ⟨v, rfl, a, ws, rfl, qa, ra⟩ := seens1 hs
    exact call_tuple_of pins s σ H _ us Q I r ⟨a, ws, rfl, .inr ⟨qa, cont_here g k ⟨a, ws, rfl, qa, ra⟩⟩⟩
  · cases e
    obtain ⟨v, rfl, a, ws, rfl, qa, ra⟩ := seens1 hs
    exact call_list_of pins s σ H _ us Q I r ⟨a, ws, rfl, .inl qa.l, cont_lst g k ra⟩
  · cases e
    obtain ⟨v, rfl, a, ws, rfl, qa, ra⟩ := seens1 hs
    exact call_list_of pins s σ H _ us Q I r ⟨a, ws, rfl, .inr qa, cont_lst g k ra⟩
  · split at e
    · rename_i h
      cases e
      obtain ⟨v, rfl, hv⟩ := seens1 hs
      cases (show v = V.str _ from hv)
      obtain ⟨u, rfl, t, rfl⟩ := vals1 r
      exact signs_run hc h I g k
    · cases e
  · obtain ⟨bs, e1, rfl⟩ := Option.map_eq_some_iff.mp e
    obtain ⟨v, rfl, a, ws, rfl, qa, ra⟩ := seens1 hs
    have ew := reps_bls ra e1
    subst ew
    exact cr_all hc pins s σ H _ us Q I r ⟨a, bs, rfl, qa.l, cont_here g k rfl⟩
  · obtain ⟨bs, e1, rfl⟩ := Option.map_eq_some_iff.mp e
    obtain ⟨v, rfl, a, ws, rfl, qa, ra⟩ := seens1 hs
    have ew := reps_bls ra e1
    subst ew
    exact cr_any hc pins s σ H _ us Q I r ⟨a, bs, rfl, qa.l, cont_here g k rfl⟩
  · obtain ⟨bs, e1, rfl⟩ := Option.map_eq_some_iff.mp e
    obtain ⟨v, rfl, a, ws, rfl, qa, ra⟩ := seens1 hs
    have ew := reps_ints ra e1
    subst ew
    exact cr_sum hc pins s σ H _ us Q I r ⟨a, bs, rfl, qa.l, cont_here g k rfl⟩
  · cases e
    obtain ⟨v, w, rfl, hv, hw⟩ := seens2 hs
    cases (show v = V.int _ from hv)
    cases (show w = V.int _ from hw)
    exact call_max2 hc pins s σ H _ us Q I r ⟨_, _, rfl, cont_here g k rfl⟩
  · split at e
    · rename_i h
      cases e
      rw [decide_eq_true_eq] at h
      obtain ⟨v, rfl, hv⟩ := seens1 hs
      cases (show v = V.int _ from hv)
      exact call_str_int pins s σ H _ us Q I r ⟨_, rfl, by have := natAbs_log h (by decide); omega, cont_here g k rfl⟩
    · cases e
  · split at e
    · rename_i h
      cases e
      obtain ⟨v, rfl, hv⟩ := seens1 hs
      exact repr_run hg hu h I r hv k g
    · cases e
  · split at e
    · rename_i h
      cases e
      obtain ⟨v, rfl, hv⟩ := seens1 hs
      exact repr_run hg hu h I r hv k g
    · cases e
  · rename_i b0
    cases e
    obtain ⟨v, rfl, hv⟩ := seens1 hs
    cases (show v = V.bl _ from hv)
    obtain ⟨u, rfl, ru⟩ := r.one
    cases (show u = Value.bool _ from ru)
    have k2 : Q (.str (D.bl b0).py.shown) H := cont_here g k rfl
    exact PySem.P.repr_of_bool ⟨.str _, H, I.tok _, ⟨_, rfl⟩, k2⟩
  · split at e
    · rename_i h
      cases e
      obtain ⟨v, rfl, hv⟩ := seens1 hs
      cases (show v = V.str _ from hv)
      obtain ⟨u, rfl, t, rfl⟩ := vals1 r
      have k2 := cont_here g k rfl
      exact PySem.P.repr_of_str ⟨.str _, H, I.tok _, ⟨_, rfl⟩, k2⟩ (small_line h)
    · cases e
  · split at e
    · rename_i h
      cases e
      obtain ⟨v, rfl, hv⟩ := seens1 hs
      obtain ⟨a, ws, rfl, qa, ra⟩ := hv
      exact sort_run hu h I r qa ra (fun ws' r' => cont_lst g k r')
    · cases e
  · split at e
    · rename_i ss hss
      split at e
      · rename_i h
        rw [decide_eq_true_eq] at h
        cases e
        obtain ⟨v, rfl, hv⟩ := seens1 hs
        obtain ⟨a, ws, rfl, qa, ra⟩ := hv
        have ew := reps_strs ra hss
        subst ew
        exact sort_tup_run hu h I r qa (fun p hp => cont_lst g k (strs_reps _) p hp)
      · cases e
    · cases e
  · cases e

def meId : ME → String
  | .append => "list.append"
  | .pop => "list.pop"
  | .popAt => "list.pop"
  | .extend => "list.extend"
  | .index => "list.index"
  | .join => "str.join"
/-- behind an operation that may change the store -/
abbrev ContS (K : PySem.W.Frag) (S : Sto) (μ : Mu) (H : Hp) (S' : Sto) (z : D) (Q : VK) : Prop := ∀ v' μ' H', Good K S' μ' H' → Evo S μ H S' μ' H' → Rep K S' μ' H' z v' → Q v' H'
def rMk (K : PySem.W.Frag) : List V → Hp → VK → Prop := fun vs H Q => ∃ S μ ys zs S' d, Good K S μ H ∧ Seens K S μ H ys vs ∧ biD .list ys = some (.lst zs) ∧ mkList true zs S = some (d, S') ∧ ContS K S μ H S' d Q
/-- list(x) that will change -/
theorem call_mk (hc : X.calm = true) : CallR X (.type "list") (rMk X.K) := by
  intro pins s σ H vs us Q I r h
  obtain ⟨S, μ, ys, zs, S', d, g, hs, e, em, k⟩ := h
  unfold mkList at em
  rw [if_pos rfl] at em
  split at em
  · rename_i hp
    cases em
    have key : ∀ vs', Reps X.K S μ H zs vs' → ∀ p, H p = none → Q (.ref p) (upd H p (.lst vs')) := fun vs' rz p hn => k _ _ _ (good_mk g hn rz hp) (evo_mk g hn) ⟨p, rfl, get_last g.len⟩
    match ys, hs, e with
    | [.lst xs], hs, e =>
      cases e
      obtain ⟨v, rfl, a, ws, rfl, qa, ra⟩ := seens1 hs
      exact call_list_of pins s σ H _ us Q I r ⟨a, ws, rfl, .inl qa.l, key _ ra⟩
    | [.tup xs], hs, e =>
      cases e
      obtain ⟨v, rfl, a, ws, rfl, qa, ra⟩ := seens1 hs
      exact call_list_of pins s σ H _ us Q I r ⟨a, ws, rfl, .inr qa, key _ ra⟩
    | [.str z], hs, e =>
      have e2 : (if small z.length = true then some (D.lst (z.cps.toList.map fun c => .str ⟨#[c]⟩)) else none) = some (D.lst zs) := e
      split at e2
      · rename_i h
        cases e2
        obtain ⟨v, rfl, hv⟩ := seens1 hs
        cases (show v = V.str _ from hv)
        obtain ⟨u, rfl, t, rfl⟩ := vals1 r
        exact signs_raw hc h I (key _ (signs_reps _))
      · cases e2
    | [.int _], hs, e => cases e
    | [.bl _], hs, e => cases e
    | [.non], hs, e => cases e
    | [.ref _], hs, e => cases e
    | [], hs, e => cases e
    | _ :: _ :: _, hs, e => simp [biD] at e
  · cases em
theorem pures_append : ∀ {xs ys : List D}, D.pures xs = true → D.pures ys = true → D.pures (xs ++ ys) = true
  | [], _, _, h => h
  | x :: xs, ys, h, h' => by
    have p : (D.pure x && D.pures xs) = true := h
    rw [Bool.and_eq_true] at p
    show (D.pure x && D.pures (xs ++ ys)) = true
    rw [Bool.and_eq_true]
    exact ⟨p.1, pures_append p.2 h'⟩
theorem pures_mem : ∀ {xs : List D}, D.pures xs = true ↔ ∀ x ∈ xs, D.pure x = true
  | [] => by simp [D.pures]
  | x :: xs => by
    have ih := pures_mem (xs := xs)
    show (D.pure x && D.pures xs) = true ↔ _
    rw [Bool.and_eq_true, ih]
    simp
theorem pures_sub {xs ys : List D} (h : D.pures xs = true) (k : ∀ y ∈ ys, y ∈ xs) : D.pures ys = true := pures_mem.mpr fun y hy => pures_mem.mp h y (k y hy)
theorem pures_set {xs : List D} {j : Nat} {x : D} (h : D.pures xs = true) (hx : D.pure x = true) : D.pures (xs.set j x) = true :=
  pures_mem.mpr fun y hy => by
    rcases List.mem_or_eq_of_mem_set hy with z | z
    · exact pures_mem.mp h y z
    · rw [z]; exact hx
def rMe (K : PySem.W.Frag) (m : ME) : V → List V → Hp → VK → Prop := fun v vs H Q => ∃ S μ o ys S' z, Good K S μ H ∧ Rep K S μ H o v ∧ Reps K S μ H ys vs ∧ meD m o ys S = some (z, S') ∧ ContS K S μ H S' z Q
theorem reps1 {K : PySem.W.Frag} {d : D} {vs : List V} (h : Reps K S μ H [d] vs) : ∃ v, vs = [v] ∧ Rep K S μ H d v := by
  obtain ⟨v, r, e, h1, h2⟩ := h
  cases (show r = [] from h2)
  exact ⟨v, e, h1⟩
theorem extend_run {l b : Addr} {xs zs : List V} (I : Inv X pins σ H s) (hH : H l = some (.lst xs)) (hB : SqP X.K H b zs) (hz : xs.length + zs.length ≤ sizeLine) (q : Q .non (upd H l (.lst (xs ++ zs)))) :
    wpAny (model X.prog X.w) X.A (call (.builtin "list.extend") [.ref l, .ref b]) (EP X pins σ Q) X.xe s := by
  obtain ⟨z, its, n, r, hl, e⟩ := I.lstM hH
  obtain ⟨z2, its2, n2, r2, hl2, e2⟩ := hB.plain I
  have hsz : its.toArray.size + its2.toArray.size ≤ sizeLine := by rw [List.size_toArray, List.size_toArray]; omega
  have hlong : ¬ (!its.toArray.isEmpty && Builtin.List.listTooLong (its.toArray.size + its2.toArray.size)) = true := by
    rw [notLongL hsz, Bool.and_false]
    exact Bool.false_ne_true
  refine call_meets F.slot_list_extend ⟨_, e, rfl⟩ F.entry_list_extend (F.args_list_extend_2 _ _)
    (AutoSeq1.list_extend_list_list_0 l its.toArray n b its2.toArray n2 hlong (by rw [List.size_toArray]; omega) (by omega)) ⟨e, e2, ?_⟩
  refine ⟨.non, _, I.lset (its' := its ++ its2) hH e (by simp) (r.append r2) ?_, rfl, q⟩
  rw [List.length_append]
  omega
theorem ixN_bounds {n : Nat} {i : Int} {j : Nat} (h : ixN n i = some j) (hn : n ≤ 100000) : -(2 ^ 63) ≤ i ∧ i < 2 ^ 63 ∧ seqIndex? i n = some j := by
  obtain ⟨h1, h2, h3, h4⟩ := ixN_seq h
  exact ⟨by omega, by omega, h1⟩
theorem me_run (m : ME) : MtR X (meId m) (rMe X.K m) := by
  intro pins s σ H v vs u us Q I rv r h
  obtain ⟨S, μ, o, ys, S', z, g, ho, hs, e, k⟩ := h
  unfold meD at e
  split at e
  · -- append
    split at e
    · rename_i x _ ys hS
      split at e
      · rename_i hc
        cases e
        rw [Bool.and_eq_true] at hc
        obtain ⟨a, rfl, ma⟩ := ho
        obtain ⟨b, ws, mb, hb, rr⟩ := g.at_ _ _ hS
        rw [ma] at mb; cases mb
        obtain ⟨w, rfl, hw⟩ := reps1 hs
        have hl := small_lt hc.2
        rw [rr.length] at hl
        have pu : D.pures (ys ++ [x]) = true := pures_append (g.pur _ _ hS) (by show (D.pure x && D.pures []) = true; rw [hc.1]; rfl)
        have r2 : Reps X.K S μ H (ys ++ [x]) (ws ++ [w]) := rr.append ⟨w, [], rfl, hw, rfl⟩
        exact mt_append pins s σ H _ _ u us Q I rv r ⟨a, ws, w, rfl, rfl, hb, hl, k _ _ _ (good_put g hS ma r2 pu) (evo_put g hS ma) rfl⟩
      · cases e
    · cases e
  · -- extend
    split at e
    · rename_i x _ ys hS
      split at e
      · rename_i hc
        cases e
        rw [Bool.and_eq_true] at hc
        obtain ⟨a, rfl, ma⟩ := ho
        obtain ⟨b, ws, mb, hb, rr⟩ := g.at_ _ _ hS
        rw [ma] at mb; cases mb
        obtain ⟨w, rfl, hw⟩ := reps1 hs
        obtain ⟨c, zs, rfl, qc, rc⟩ := hw.lsR
        have hl := small_line hc.2
        rw [rr.length, rc.length] at hl
        obtain ⟨u2, rfl, ru⟩ := r.one
        cases (show u2 = Value.ref c from ru)
        cases (show u = Value.ref a from rv)
        exact extend_run I hb qc hl (k _ _ _ (good_put g hS ma (rr.append rc) (pures_append (g.pur _ _ hS) hc.1)) (evo_put g hS ma) rfl)
      · cases e
    · cases e
  · -- pop
    split at e
    · rename_i ys hS
      split at e
      · rename_i y hy
        cases e
        obtain ⟨a, rfl, ma⟩ := ho
        obtain ⟨b, ws, mb, hb, rr⟩ := g.at_ _ _ hS
        rw [ma] at mb; cases mb
        obtain ⟨w, hw, rw'⟩ := rr.get hy
        rw [rr.length] at hw
        cases (show vs = [] from hs)
        have ev := evo_put (o := .lst ws.dropLast) (ys := ys.dropLast) g hS ma
        exact mt_pop pins s σ H _ _ u us Q I rv r ⟨a, ws, w, rfl, rfl, hb, hw, k _ _ _ (good_put g hS ma rr.dropLast (pures_sub (g.pur _ _ hS) fun y hy => (List.dropLast_sublist _).subset hy)) ev (rw'.mono g ev.w)⟩
      · cases e
    · cases e
  · -- pop(i)
    split at e
    · rename_i ys hS
      split at e
      · rename_i j hj
        split at e
        · rename_i hc
          split at e
          · rename_i y hy
            cases e
            obtain ⟨a, rfl, ma⟩ := ho
            obtain ⟨b, ws, mb, hb, rr⟩ := g.at_ _ _ hS
            rw [ma] at mb; cases mb
            obtain ⟨w, hw, rw'⟩ := rr.get hy
            obtain ⟨w1, rfl, hw1⟩ := reps1 hs
            cases (show w1 = V.int _ from hw1)
            obtain ⟨b1, b2, b3⟩ := ixN_bounds hj (small_le hc)
            rw [rr.length] at b3
            have ev := evo_put (o := .lst (ws.eraseIdx j)) (ys := ys.eraseIdx j) g hS ma
            exact mt_popAt pins s σ H _ _ u us Q I rv r ⟨a, ws, _, j, w, rfl, rfl, hb, b1, b2, b3, hw, k _ _ _ (good_put g hS ma (rr.eraseIdx j) (pures_sub (g.pur _ _ hS) fun y hy => List.mem_of_mem_eraseIdx hy)) ev (rw'.mono g ev.w)⟩
          · cases e
        · cases e
      · cases e
    · cases e
  · -- index
    rename_i ys x
    split at e
    · rename_i hc
      rw [Bool.and_eq_true] at hc
      split at e
      · rename_i j hj
        cases e
        obtain ⟨a, ws, rfl, qa, ra⟩ := ho.lsR
        obtain ⟨w, rfl, hw⟩ := reps1 hs
        obtain ⟨hlt, h1, h2⟩ := List.findIdx?_eq_some_iff_getElem.mp hj
        obtain ⟨z, hz, rz⟩ := ra.get (List.getElem?_eq_getElem hlt)
        have fl : ∀ i (hi : i < ys.length), ys[i].flat = true := fun i hi => List.all_eq_true.mp hc.2 _ (List.getElem_mem hi)
        refine mt_index pins s σ H _ _ u us Q I rv r ⟨a, ws, w, j, z, rfl, rfl, qa.l, (flat_rep hc.1 hw).1, flats_rep hc.2 ra, hz, ?_, fun m z' hm hz' => ?_, k _ _ _ g (Evo.refl _ _ _) rfl⟩
        · rw [eqv_flat (fl j hlt) hc.1 rz hw]; exact h1
        · have hml : m < ys.length := by omega
          obtain ⟨z2, hz2, rz2⟩ := ra.get (List.getElem?_eq_getElem hml)
          rw [hz'] at hz2; cases hz2
          rw [eqv_flat (fl m hml) hc.1 rz2 hw]
          have := h2 m hm
          simpa using this
      · cases e
    · cases e
  · -- join
    split at e
    · rename_i ss hss
      split at e
      · rename_i hc
        cases e
        cases (show v = V.str _ from ho)
        obtain ⟨w, rfl, hw⟩ := reps1 hs
        obtain ⟨c, zs, rfl, qc, rc⟩ := hw.lsR
        have ew := reps_strs rc hss
        subst ew
        refine mt_join pins s σ H _ _ u us Q I rv r ⟨_, c, ss, rfl, rfl, .inl qc.l, by have := small_le hc; omega, k _ _ _ g (Evo.refl _ _ _) rfl⟩
      · cases e
    · cases e
  · cases e

def tyS : Ty → String
  | .int => "int"
  | .bool => "bool"
  | .str => "str"
  | .list => "list"
  | .tuple => "tuple"
theorem kit_ty2 (K : PySem.W.Frag) (a b : Ty) : PySem.W.kitOne K (.type (tyS a)) (.type (tyS b)) = some (a == b || (a == .bool && b == .int)) := by
  cases a <;> cases b <;> kernel_rfl
theorem kit_ty3 (K : PySem.W.Frag) (b : Ty) : PySem.W.kitOne K (.type "NoneType") (.type (tyS b)) = some false := by
  cases b <;> kernel_rfl
theorem kit_isTy {K : PySem.W.Frag} {d : D} (t : Ty) : PySem.W.kitOne K (match tyOf d with | some u => .type (tyS u) | none => .type "NoneType") (.type (tyS t)) = some (isTy d t) := by
  unfold isTy
  cases tyOf d with
  | none => exact kit_ty3 K t
  | some u => exact kit_ty2 K u t
theorem kit_any {K : PySem.W.Frag} {d : D} : ∀ ts : List Ty, PySem.W.kitAny K (match tyOf d with | some u => .type (tyS u) | none => .type "NoneType") (ts.map fun t => Value.type (tyS t)) = some (ts.any (isTy d))
  | [] => rfl
  | t :: ts => by
    have e := kit_isTy (K := K) (d := d) t
    have ih := kit_any (K := K) (d := d) ts
    rw [List.map_cons, PySem.W.kitAny, e, List.any_cons]
    cases isTy d t with
    | true => rfl
    | false => exact ih
theorem ty_of {d : D} (nr : ∀ i, d ≠ .ref i) (h : Seen X.K S μ H d v) : TyX X.K H v (match tyOf d with | some u => .type (tyS u) | none => .type "NoneType") := by
  cases d with
  | non => cases (show v = V.non from h); exact .base .non
  | bl b => cases (show v = V.bl b from h); exact .base (.bl b)
  | int i => cases (show v = V.int i from h); exact .base (.int i)
  | str x => cases (show v = V.str x from h); exact .base (.str x)
  | tup ds =>
    obtain ⟨a, vs, rfl, q, _⟩ := h
    rcases q with (q | ⟨o, q⟩) | ⟨o, its, n, hk, hc, _⟩
    · exact .base (.tup q)
    · exact .fTuple q
    · exact .kTuple hk hc
  | lst ds =>
    obtain ⟨a, vs, rfl, q, _⟩ := h
    rcases q with (q | ⟨o, q⟩) | ⟨its, n, hk, _⟩
    · exact .base (.lst q)
    · exact .base (.frz q)
    · exact .kList hk rfl
  | ref i => exact absurd rfl (nr i)
theorem see_noref {S : Sto} {d d' : D} (e : see S d = some d') : ∀ i, d' ≠ .ref i := by
  intro i z
  subst z
  cases d with
  | ref j =>
    simp only [see] at e
    split at e
    · cases e
    · cases e
  | _ => cases e
end
end Iv

set_option Elab.async false
set_option linter.all false
set_option maxRecDepth 100000
set_option maxHeartbeats 1000000
namespace Iv
open PySem PySem.Spec PyProof.Rows L2

/-- an expression's reading -/
def tE (K : PySem.W.Frag) (F : CF) (e : E) : TE := fun σ H Q => ∃ (ρ : Env) (S : Sto) (μ : Mu) (d : D) (S' : Sto), Good K S μ H ∧ RelS K S μ H ρ σ ∧ ev F e ρ S = some (d, S') ∧ ContS K S μ H S' d Q
def tT (K : PySem.W.Frag) (F : CF) (e : E) : TT := fun σ H Q => ∃ (ρ : Env) (S : Sto) (μ : Mu) (b : Bool) (S' : Sto), Good K S μ H ∧ RelS K S μ H ρ σ ∧ ev F e ρ S = some (.bl b, S') ∧
  ∀ μ' H', Good K S' μ' H' → Evo S μ H S' μ' H' → Q b H'
def tA (K : PySem.W.Frag) (F : CF) (es : Es) : TA := fun σ H Q => ∃ (ρ : Env) (S : Sto) (μ : Mu) (xs : List D) (S' : Sto), Good K S μ H ∧ RelS K S μ H ρ σ ∧ evs F es ρ S = some (xs, S') ∧
  ∀ vs μ' H', Good K S' μ' H' → Evo S μ H S' μ' H' → Reps K S' μ' H' xs vs → Q vs H'

theorem PE.weak {X : Cx} {e : Expr} {t t' : TE} (h : PE X e t) (k : ∀ σ H Q, t' σ H Q → t σ H Q) : PE X e t' := ⟨fun pins s σ H Q I q => h.run pins s σ H Q I (k σ H Q q)⟩
theorem PT.weak {X : Cx} {e : Expr} {t t' : TT} (h : PT X e t) (k : ∀ σ H Q, t' σ H Q → t σ H Q) : PT X e t' := ⟨fun pins s σ H Q I q => h.run pins s σ H Q I (k σ H Q q)⟩

/-- what is known of the code that runs -/
structure Cok (X : Cx) : Prop where
  nd : X.N.Nodup
  calm : X.calm = true
  gd : X.A.guards = some []
  un : X.A.units + 200 < cLine

section
variable {X : Cx} {F : CF} {a b c e : Expr} {es : List Expr} {ia ib ic ie : E} {ies : Es} {pos : Pos}

theorem i_v {i : Nat} {x : Str} (hN : X.N[i]? = some x) (hv : Vis X.env.scope x) (hd : (x == ("__debug__" : Str)) = false := by decide) (hcd : (x == ("__classdict__" : Str)) = false := by decide) : PE X (.Name x pos) (tE X.K F (.v i)) :=
  PE.weak (pe_var hN hv hd hcd) fun σ H Q ⟨ρ, S, μ, d, S', g, r, q, k⟩ => by
    simp only [ev] at q
    split at q
    · rename_i d' hd'
      cases q
      obtain ⟨v, h1, h2⟩ := r.at_ i _ hd'
      exact ⟨v, h1, k v μ H g (Evo.refl _ _ _) h2⟩
    · cases q
theorem i_frz {i : Nat} {x : Str} (hN : X.N[i]? = some x) (hv : Vis X.env.scope x) (hd : (x == ("__debug__" : Str)) = false := by decide) (hcd : (x == ("__classdict__" : Str)) = false := by decide) : PE X (.Name x pos) (tE X.K F (.frz i)) :=
  PE.weak (pe_var hN hv hd hcd) fun σ H Q ⟨ρ, S, μ, d, S', g, r, q, k⟩ => by
    simp only [ev] at q
    split at q
    · rename_i j hj
      split at q
      · rename_i xs hS
        cases q
        obtain ⟨v, h1, h2⟩ := r.at_ i _ hj
        exact ⟨v, h1, k v μ H (good_drop g) evo_drop (rep_drop g hS h2)⟩
      · cases q
    · cases q
theorem i_c {d : D} {v : V} (h : PE X e (tC v)) (r : ∀ S μ H, Rep X.K S μ H d v) : PE X e (tE X.K F (.c d)) :=
  PE.weak h fun σ H Q ⟨ρ, S, μ, d', S', g, _, q, k⟩ => by
    simp only [ev] at q
    cases q
    exact k v μ H g (Evo.refl _ _ _) (r _ _ _)
theorem i_int {i : Int} {j : Nat} : PE X (.Constant (.int i) j pos) (tE X.K F (.c (.int i))) := i_c pe_int fun _ _ _ => rfl
theorem i_bl {b : Bool} {j : Nat} : PE X (.Constant (.bool b) j pos) (tE X.K F (.c (.bl b))) := i_c pe_bl fun _ _ _ => rfl
theorem i_non {j : Nat} : PE X (.Constant .none j pos) (tE X.K F (.c .non)) := i_c pe_non fun _ _ _ => rfl
theorem i_str {x : Str} {j : Nat} : PE X (.Constant (.str x) j pos) (tE X.K F (.c (.str x))) := i_c pe_str fun _ _ _ => rfl
/-- an expression that is never reached -/
theorem i_bad {e : Expr} : PE X e (tE X.K F (.neg (.c .non))) := ⟨fun pins s σ H Q I ⟨ρ, S, μ, d, S', g, _, q, _⟩ => by
  simp only [ev] at q
  cases q⟩
/-- a constant of the module -/
structure GlobOk (K : PySem.W.Frag) (mg : Str → Option Value) (x : Str) (d : D) : Prop where
  ex : ∃ u v, mg x = some u ∧ RelV v u ∧ ∀ S μ H, Rep K S μ H d v
theorem i_g {x : Str} {d : D} (hg : Gl X x) (G : GlobOk X.K X.mg x d) (hd : (x == ("__debug__" : Str)) = false := by decide) : PE X (.Name x pos) (tE X.K F (.g x d)) := by
  obtain ⟨u, v, h1, h2, h3⟩ := G.ex
  exact PE.weak (pe_glob hg h1 h2 hd) fun σ H Q ⟨ρ, S, μ, d', S', g, _, q, k⟩ => by
    simp only [ev] at q
    cases q
    exact k v μ H g (Evo.refl _ _ _) (h3 _ _ _)

def rOp (K : PySem.W.Frag) (o : Operator) : R2 := fun v w H Q => ∃ S μ x y z, Good K S μ H ∧ Seen K S μ H x v ∧ Seen K S μ H y w ∧ opD o x y = some z ∧ Cont K S μ H z Q
theorem op_I (o : Operator) : OpR X (binaryOp o) (rOp X.K o) := by
  intro pins s σ H v w u1 u2 Q I r1 r2 h
  obtain ⟨S, μ, x, y, z, g, hx, hy, e, k⟩ := h
  exact opD_run e I g hx hy r1 r2 k
/-- two parts, one behind the other -/
theorem two {K : PySem.W.Frag} {σ : L2.St} {H : Hp} {ρ : Env} {S S1 S2 : Sto} {μ : Mu} {x y : D} {R : V → V → Hp → Prop} (g : Good K S μ H) (r : RelS K S μ H ρ σ) (ea : ev F ia ρ S = some (x, S1)) (eb : ev F ib ρ S1 = some (y, S2))
    (k : ∀ v w μ2 H2, Good K S2 μ2 H2 → Evo S μ H S2 μ2 H2 → Rep K S2 μ2 H2 x v → Rep K S2 μ2 H2 y w → R v w H2) : tE K F ia σ H fun v H1 => tE K F ib σ H1 fun w H2 => R v w H2 :=
  ⟨ρ, S, μ, x, S1, g, r, ea, fun v μ1 H1 g1 e1 rv => ⟨ρ, S1, μ1, y, S2, g1, r.mono g e1.w, eb, fun w μ2 H2 g2 e2 rw => k v w μ2 H2 g2 (e1.trans e2) (rv.mono g1 e2.w) rw⟩⟩
theorem i_op {o : Operator} (ha : PE X a (tE X.K F ia)) (hb : PE X b (tE X.K F ib)) : PE X (.BinOp a o b pos) (tE X.K F (.op o ia ib)) :=
  PE.weak (pe_op (op_I o) ha hb) fun σ H Q ⟨ρ, S, μ, d, S', g, r, q, k⟩ => by
    simp only [ev] at q
    split at q
    · cases q
    · rename_i x S1 ea
      split at q
      · cases q
      · rename_i y S2 eb
        split at q
        · rename_i x' y' sx sy
          split at q
          · rename_i z ez
            cases q
            exact two g r ea eb fun v w μ2 H2 g2 e2 rx ry => ⟨_, μ2, x', y', _, g2, see_ok g2 rx sx, see_ok g2 ry sy, ez, fun v' H' g3 e3 rz => k v' μ2 H' g3 (e2.trans e3) rz⟩
          · cases q
        · cases q
theorem i_neg (ha : PE X a (tE X.K F ia)) : PE X (.UnaryOp .USub a pos) (tE X.K F (.neg ia)) :=
  PE.weak (pe_un un_neg ha) fun σ H Q ⟨ρ, S, μ, d, S', g, r, q, k⟩ => by
    simp only [ev] at q
    split at q
    · rename_i i S1 ea
      cases q
      exact ⟨ρ, S, μ, _, _, g, r, ea, fun v μ1 H1 g1 e1 rv => ⟨i, rv, k _ _ _ g1 e1 rfl⟩⟩
    · cases q
def rCmp (K : PySem.W.Frag) (o : CmpOp) : R2 := fun v w H Q => ∃ S μ x y b, Good K S μ H ∧ Seen K S μ H x v ∧ Seen K S μ H y w ∧ cmpD o x y = some b ∧ Q (.bl b) H
theorem cmp_I (ok : Cok X) (o : CmpOp) : OpR X (compareOp o) (rCmp X.K o) := by
  intro pins s σ H v w u1 u2 Q I r1 r2 h
  obtain ⟨S, μ, x, y, z, g, hx, hy, e, q⟩ := h
  exact cmpD_run (by have := ok.un; omega) e I hx hy r1 r2 q
theorem cmp_read {o : CmpOp} {σ : L2.St} {H : Hp} {Q : VK} : tE X.K F (.cmp o ia ib) σ H Q → tOp (rCmp X.K o) (tE X.K F ia) (tE X.K F ib) σ H Q := fun ⟨ρ, S, μ, d, S', g, r, q, k⟩ => by
  simp only [ev] at q
  split at q
  · cases q
  · rename_i x S1 ea
    split at q
    · cases q
    · rename_i y S2 eb
      split at q
      · rename_i x' y' sx sy
        split at q
        · rename_i z ez
          cases q
          exact two g r ea eb fun v w μ2 H2 g2 e2 rx ry => ⟨_, μ2, x', y', _, g2, see_ok g2 rx sx, see_ok g2 ry sy, ez, k _ _ _ g2 e2 rfl⟩
        · cases q
      · cases q
theorem i_cmp {o : CmpOp} (ok : Cok X) (ha : PE X a (tE X.K F ia)) (hb : PE X b (tE X.K F ib)) (hm : behindInMarks o b = false := by first | exact nobehind _ (by decide) (by decide) | rfl) : PE X (.Compare a [o] [b] pos) (tE X.K F (.cmp o ia ib)) :=
  PE.weak (pe_cmpR (cmp_I ok o) ha hb hm) fun σ H Q h => cmp_read h
theorem tT_tE {K : PySem.W.Frag} {σ : L2.St} {H : Hp} {Q : Bool → Hp → Prop} (h : tT K F ia σ H Q) : tE K F ia σ H fun x H' => ∃ k, x = .bl k ∧ Q k H' := by
  obtain ⟨ρ, S, μ, b, S', g, r, q, k⟩ := h
  exact ⟨ρ, S, μ, _, _, g, r, q, fun v μ1 H1 g1 e1 rv => ⟨b, rv, k _ _ g1 e1⟩⟩
theorem t_cmp {o : CmpOp} (ok : Cok X) (ha : PE X a (tE X.K F ia)) (hb : PE X b (tE X.K F ib)) (hm : behindInMarks o b = false := by first | exact nobehind _ (by decide) (by decide) | rfl) : PT X (.Compare a [o] [b] pos) (tT X.K F (.cmp o ia ib)) :=
  PT.weak (pt_cmpR (cmp_I ok o) ha hb hm) fun σ H Q h => cmp_read (tT_tE h)
/-- an expression as a test -/
theorem t_e (ha : PE X a (tE X.K F ia)) (he : ∀ whole, isTrue a X.env whole = (do let v ← whole; standAt a.pos; holding [v] (truthy v)) := by intro _; rfl) : PT X a (tT X.K F ia) :=
  PT.weak (pt_val ha he) fun σ H Q h => tT_tE h
theorem chain_read {o p : CmpOp} {σ : L2.St} {H : Hp} {Q : VK} : tE X.K F (.chain o p ia ib ic) σ H Q → tChain (rCmp X.K o) (rCmp X.K p) (tE X.K F ia) (tE X.K F ib) (tE X.K F ic) σ H Q := fun ⟨ρ, S, μ, d, S', g, r, q, k⟩ => by
  simp only [ev] at q
  split at q
  · cases q
  · rename_i x S1 ea
    split at q
    · cases q
    · rename_i y S2 eb
      split at q
      · rename_i x' y' sx sy
        split at q
        · cases q
        · rename_i ez
          cases q
          exact two g r ea eb fun v w μ2 H2 g2 e2 rx ry => ⟨_, μ2, x', y', _, g2, see_ok g2 rx sx, see_ok g2 ry sy, ez, false, rfl, by show (if false = true then _ else _); rw [if_neg Bool.false_ne_true]; exact k _ _ _ g2 e2 rfl⟩
        · rename_i ez
          split at q
          · cases q
          · rename_i z S3 ec
            split at q
            · rename_i y2 z2 sy2 sz2
              split at q
              · rename_i r2 er
                cases q
                refine two g r ea eb fun v w μ2 H2 g2 e2 rx ry => ⟨_, μ2, x', y', _, g2, see_ok g2 rx sx, see_ok g2 ry sy, ez, true, rfl, ?_⟩
                rw [if_pos rfl]
                exact ⟨ρ, S2, μ2, z, _, g2, r.mono g e2.w, ec, fun v3 μ3 H3 g3 e3 rz => ⟨_, μ3, y2, z2, _, g3, see_ok g3 (ry.mono g2 e3.w) sy2, see_ok g3 rz sz2, er, k _ _ _ g3 (e2.trans e3) rfl⟩⟩
              · cases q
            · cases q
      · cases q
theorem i_chain {o p : CmpOp} (ok : Cok X) (ha : PE X a (tE X.K F ia)) (hb : PE X b (tE X.K F ib)) (hc : PE X c (tE X.K F ic)) (hm : lastMarks [o, p] [b, c] = false := by with_unfolding_all rfl) : PE X (.Compare a [o, p] [b, c] pos) (tE X.K F (.chain o p ia ib ic)) :=
  PE.weak (pe_chain (cmp_I ok o) (cmp_I ok p) ha hb hc hm) fun σ H Q h => chain_read h
theorem t_chain {o p : CmpOp} (ok : Cok X) (ha : PE X a (tE X.K F ia)) (hb : PE X b (tE X.K F ib)) (hc : PE X c (tE X.K F ic)) (hm : lastMarks [o, p] [b, c] = false := by with_unfolding_all rfl) : PT X (.Compare a [o, p] [b, c] pos) (tT X.K F (.chain o p ia ib ic)) :=
  PT.weak (pt_chain (cmp_I ok o) (cmp_I ok p) ha hb hc hm) fun σ H Q h => chain_read (tT_tE h)

theorem i_one {o : BoolOp} (ha : PE X a (tE X.K F ia)) : PE X (.BoolOp o [a] pos) (tE X.K F ia) := pe_one ha
theorem i_and (ha : PE X a (tE X.K F ia)) (hb : PE X (.BoolOp .And (b :: es) pos) (tE X.K F ib)) : PE X (.BoolOp .And (a :: b :: es) pos) (tE X.K F (.and ia ib)) :=
  PE.weak (pe_and ha hb) fun σ H Q ⟨ρ, S, μ, d, S', g, r, q, k⟩ => by
    simp only [ev] at q
    split at q
    · rename_i S1 ea
      exact ⟨ρ, S, μ, _, _, g, r, ea, fun v μ1 H1 g1 e1 rv => ⟨true, rv, by show (if true = true then _ else _); rw [if_pos rfl]; exact ⟨ρ, S1, μ1, _, _, g1, r.mono g e1.w, q, fun w μ2 H2 g2 e2 rw => k _ _ _ g2 (e1.trans e2) rw⟩⟩⟩
    · rename_i S1 ea
      cases q
      exact ⟨ρ, S, μ, _, _, g, r, ea, fun v μ1 H1 g1 e1 rv => ⟨false, rv, by show (if false = true then _ else _); rw [if_neg Bool.false_ne_true]; exact k _ _ _ g1 e1 rfl⟩⟩
    · cases q
theorem i_or (ha : PE X a (tE X.K F ia)) (hb : PE X (.BoolOp .Or (b :: es) pos) (tE X.K F ib)) : PE X (.BoolOp .Or (a :: b :: es) pos) (tE X.K F (.or ia ib)) :=
  PE.weak (pe_or ha hb) fun σ H Q ⟨ρ, S, μ, d, S', g, r, q, k⟩ => by
    simp only [ev] at q
    split at q
    · rename_i S1 ea
      cases q
      exact ⟨ρ, S, μ, _, _, g, r, ea, fun v μ1 H1 g1 e1 rv => ⟨true, rv, by show (if true = true then _ else _); rw [if_pos rfl]; exact k _ _ _ g1 e1 rfl⟩⟩
    · rename_i S1 ea
      exact ⟨ρ, S, μ, _, _, g, r, ea, fun v μ1 H1 g1 e1 rv => ⟨false, rv, by show (if false = true then _ else _); rw [if_neg Bool.false_ne_true]; exact ⟨ρ, S1, μ1, _, _, g1, r.mono g e1.w, q, fun w μ2 H2 g2 e2 rw => k _ _ _ g2 (e1.trans e2) rw⟩⟩⟩
    · cases q
theorem i_not (ha : PE X a (tE X.K F ia)) : PE X (.UnaryOp .Not a pos) (tE X.K F (.not ia)) :=
  PE.weak (pe_not ha) fun σ H Q ⟨ρ, S, μ, d, S', g, r, q, k⟩ => by
    simp only [ev] at q
    split at q
    · rename_i b S1 ea
      cases q
      exact ⟨ρ, S, μ, _, _, g, r, ea, fun v μ1 H1 g1 e1 rv => ⟨b, rv, k _ _ _ g1 e1 rfl⟩⟩
    · cases q
theorem i_ite (hc : PT X c (tT X.K F ic)) (ha : PE X a (tE X.K F ia)) (hb : PE X b (tE X.K F ib)) : PE X (.IfExp c a b pos) (tE X.K F (.ite ic ia ib)) :=
  PE.weak (pe_ifExp hc ha hb) fun σ H Q ⟨ρ, S, μ, d, S', g, r, q, k⟩ => by
    simp only [ev] at q
    split at q
    · rename_i S1 ea
      exact ⟨ρ, S, μ, true, _, g, r, ea, fun μ1 H1 g1 e1 => by show (if true = true then _ else _); rw [if_pos rfl]; exact ⟨ρ, S1, μ1, _, _, g1, r.mono g e1.w, q, fun w μ2 H2 g2 e2 rw => k _ _ _ g2 (e1.trans e2) rw⟩⟩
    · rename_i S1 ea
      exact ⟨ρ, S, μ, false, _, g, r, ea, fun μ1 H1 g1 e1 => by show (if false = true then _ else _); rw [if_neg Bool.false_ne_true]; exact ⟨ρ, S1, μ1, _, _, g1, r.mono g e1.w, q, fun w μ2 H2 g2 e2 rw => k _ _ _ g2 (e1.trans e2) rw⟩⟩
    · cases q
abbrev PWI (X : Cx) (F : CF) (e : Expr) (ie : E) : Prop := PW X e (tT X.K F ie)
theorem PW.weak {X : Cx} {e : Expr} {t t' : TT} (h : PW X e t) (k : ∀ σ H Q, t' σ H Q → t σ H Q) : PW X e t' := ⟨fun wh pins s σ H Q I q => h.run wh pins s σ H Q I (k σ H Q q)⟩
theorem tT_eta {K : PySem.W.Frag} {σ : L2.St} {H : Hp} {Q : Bool → Hp → Prop} (h : tT K F ia σ H Q) (k : ∀ b H', Q b H' → Q (if b = true then true else false) H') : True := trivial
theorem w_and1 (ha : PT X a (tT X.K F ia)) : PW X (.BoolOp .And [a] pos) (tT X.K F ia) := pw_and1 ha
theorem w_or1 (ha : PT X a (tT X.K F ia)) : PW X (.BoolOp .Or [a] pos) (tT X.K F ia) := pw_or1 ha
theorem w_and (ha : PT X a (tT X.K F ia)) (hb : PW X (.BoolOp .And (b :: es) pos) (tT X.K F ib)) : PW X (.BoolOp .And (a :: b :: es) pos) (tT X.K F (.and ia ib)) :=
  PW.weak (pw_and ha hb) fun σ H Q ⟨ρ, S, μ, d, S', g, r, q, k⟩ => by
    simp only [ev] at q
    split at q
    · rename_i S1 ea
      exact ⟨ρ, S, μ, true, _, g, r, ea, fun μ1 H1 g1 e1 => by show (if true = true then _ else _); rw [if_pos rfl]; exact ⟨ρ, S1, μ1, _, _, g1, r.mono g e1.w, q, fun μ2 H2 g2 e2 => k _ _ g2 (e1.trans e2)⟩⟩
    · rename_i S1 ea
      cases q
      exact ⟨ρ, S, μ, false, _, g, r, ea, fun μ1 H1 g1 e1 => by show (if false = true then _ else _); rw [if_neg Bool.false_ne_true]; exact k _ _ g1 e1⟩
    · cases q
theorem w_or (ha : PT X a (tT X.K F ia)) (hb : PW X (.BoolOp .Or (b :: es) pos) (tT X.K F ib)) : PW X (.BoolOp .Or (a :: b :: es) pos) (tT X.K F (.or ia ib)) :=
  PW.weak (pw_or ha hb) fun σ H Q ⟨ρ, S, μ, d, S', g, r, q, k⟩ => by
    simp only [ev] at q
    split at q
    · rename_i S1 ea
      cases q
      exact ⟨ρ, S, μ, true, _, g, r, ea, fun μ1 H1 g1 e1 => by show (if true = true then _ else _); rw [if_pos rfl]; exact k _ _ g1 e1⟩
    · rename_i S1 ea
      exact ⟨ρ, S, μ, false, _, g, r, ea, fun μ1 H1 g1 e1 => by show (if false = true then _ else _); rw [if_neg Bool.false_ne_true]; exact ⟨ρ, S1, μ1, _, _, g1, r.mono g e1.w, q, fun μ2 H2 g2 e2 => k _ _ g2 (e1.trans e2)⟩⟩
    · cases q
theorem t_w (h : PW X a (tT X.K F ia)) : PT X a (tT X.K F ia) := h.pt
theorem t_not (ha : PT X a (tT X.K F ia)) : PT X (.UnaryOp .Not a pos) (tT X.K F (.not ia)) :=
  PT.weak (pt_not ha) fun σ H Q ⟨ρ, S, μ, d, S', g, r, q, k⟩ => by
    simp only [ev] at q
    split at q
    · rename_i b S1 ea
      cases q
      exact ⟨ρ, S, μ, b, _, g, r, ea, fun μ1 H1 g1 e1 => k _ _ g1 e1⟩
    · cases q

theorem PA.weak {X : Cx} {e : List Expr} {t t' : TA} (h : PA X e t) (k : ∀ σ H Q, t' σ H Q → t σ H Q) : PA X e t' := ⟨fun p pins s σ H Q I q => h.run p pins s σ H Q I (k σ H Q q)⟩
theorem a_nil : PA X [] (tA X.K F .nil) := PA.weak pa_nil fun σ H Q ⟨ρ, S, μ, d, S', g, r, q, k⟩ => by
  simp only [evs] at q
  cases q
  exact k [] μ H g (Evo.refl _ _ _) rfl
theorem a_cons (ha : PE X a (tE X.K F ia)) (hr : PA X es (tA X.K F ies)) (hs : starEach (a :: es) X.env = (false, eval a X.env) :: starEach es X.env := by rfl) : PA X (a :: es) (tA X.K F (.cons ia ies)) :=
  PA.weak (pa_cons ha hr hs) fun σ H Q ⟨ρ, S, μ, d, S', g, r, q, k⟩ => by
    simp only [evs] at q
    split at q
    · cases q
    · rename_i x S1 ea
      split at q
      · cases q
      · rename_i xs S2 eb
        cases q
        exact ⟨ρ, S, μ, x, S1, g, r, ea, fun v μ1 H1 g1 e1 rv => ⟨ρ, S1, μ1, xs, _, g1, r.mono g e1.w, eb, fun vs μ2 H2 g2 e2 rw => k _ _ _ g2 (e1.trans e2) ⟨v, vs, rfl, rv.mono g1 e2.w, rw⟩⟩⟩
theorem star_lst {pins : List (Addr × Obj)} {σ : L2.St} {H : Hp} {s : Shared} {p : Addr} {xs : List V} {E : Value → Shared → Prop} {Q : List Value → Shared → Prop} (I : Inv X pins σ H s) (h : SqP X.K H p xs) (hQ : ∀ us s', Inv X pins σ H s' → Vals xs us → Q us s') :
    PySem.W.StarOf (model X.prog X.w) X.A E (.ref p) Q s := by
  obtain ⟨z, its, n, r, hl, ho⟩ := h.plain I
  have hT : s.TypeIs (.ref p) "list" := ⟨_, ho, rfl⟩
  have q : wpAny (model X.prog X.w) X.A (collect (.ref p)) Q E s := by
    refine wpAny_collect_seq p (.inl rfl) ho rfl rfl (fun h' hk => ?_) (by rw [List.size_toArray]; omega)
    have e : its.toArray.toList = its := by simp
    rw [e]
    exact hQ its _ (I.kept (t' := s.toks) hk) r
  unfold PySem.W.StarOf notIterableAtAll
  exact wpAny_bind (wpAny_specialOf hT PySem.F.slot_list_iter.lookup (wpAny_pure ⟨rfl, q⟩))
theorem a_star {p : Pos} (ha : PE X a (tE X.K F ia)) (hr : PA X es (tA X.K F ies)) : PA X (.Starred a p :: es) (tA X.K F (.star ia ies)) := by
  refine ⟨fun pos pins s σ H Q I ⟨ρ, S, μ, d, S', g, r, q, k⟩ => ?_⟩
  simp only [evs] at q
  split at q
  · cases q
  · rename_i x S1 ea
    have more : ∀ (ys xs : List D) (S2 : Sto), evs F ies ρ S1 = some (xs, S2) → (∀ vs μ' H', Good X.K S2 μ' H' → Evo S μ H S2 μ' H' → Reps X.K S2 μ' H' (ys ++ xs) vs → Q vs H') →
        ∀ (s2 : Shared) (us : List Value) (ws : List V) (μ1 : Mu) (H1 : Hp), Inv X pins σ H1 s2 → Good X.K S1 μ1 H1 → Evo S μ H S1 μ1 H1 → Reps X.K S1 μ1 H1 ys ws → Vals ws us →
        wpAny (model X.prog X.w) X.A (spliced (backTo pos (starEach es X.env))) (fun vs s3 => AP X pins σ Q (us ++ vs) s3) X.xe s2 := fun ys xs S2 eb k s2 us ws μ1 H1 I1 g1 e1 rys rus => by
      refine thn (hr.run pos pins s2 σ H1 (fun vs H2 => ∃ μ2, Good X.K S2 μ2 H2 ∧ Evo S μ H S2 μ2 H2 ∧ Reps X.K S2 μ2 H2 (ys ++ xs) (ws ++ vs)) I1 ⟨ρ, S1, μ1, xs, S2, g1, r.mono g e1.w, eb, fun vs μ2 H2 g2 e2 rx => ⟨μ2, g2, e1.trans e2, (rys.mono g1 e2.w).append rx⟩⟩) ?_
      rintro zs s3 ⟨vs, H2, I2, rz, μ2, g2, e2, rr⟩
      exact ⟨ws ++ vs, H2, I2, rus.append rz, k _ μ2 H2 g2 e2 rr⟩
    show wpAny _ _ (spliced ((true, (do let v ← eval a X.env; standAt pos; pure v)) :: backTo pos (starEach es X.env))) _ _ _
    refine PySem.W.ks_spliced (pos := pos) (thn (ha.run pins s σ H (fun v H1 => ∃ μ1, Good X.K S1 μ1 H1 ∧ Evo S μ H S1 μ1 H1 ∧ Rep X.K S1 μ1 H1 x v) I ⟨ρ, S, μ, x, S1, g, r, ea, fun v μ1 H1 g1 e1 rv => ⟨μ1, g1, e1, rv⟩⟩) ?_)
    rintro u s1 ⟨v, H1, I1, ru, μ1, g1, e1, rv⟩
    split at q
    · rename_i ys sy
      split at q
      · cases q
      · rename_i xs S2 eb
        cases q
        obtain ⟨p', ws, rfl, qa, ra⟩ := see_ok g1 rv sy
        cases (show u = Value.ref p' from ru)
        exact star_lst I1 qa fun us s2 I2 rus => more ys xs _ eb k s2 us ws μ1 H1 I2 g1 e1 ra rus
    · rename_i ys sy
      split at q
      · cases q
      · rename_i xs S2 eb
        cases q
        obtain ⟨p', ws, rfl, qa, ra⟩ := see_ok g1 rv sy
        cases (show u = Value.ref p' from ru)
        exact star_tup I1 qa fun us s2 I2 rus => more ys xs _ eb k s2 us ws μ1 H1 I2 g1 e1 ra rus
    · cases q
theorem i_tup {x1 : Nat} (h : PA X es (tA X.K F ies)) : PE X (.Tuple es x1 pos) (tE X.K F (.tup ies)) :=
  PE.weak (pe_tup h) fun σ H Q ⟨ρ, S, μ, d, S', g, r, q, k⟩ => by
    simp only [ev] at q
    split at q
    · rename_i xs S1 ea
      split at q
      · rename_i hz
        cases q
        exact ⟨ρ, S, μ, xs, _, g, r, ea, fun vs μ1 H1 g1 e1 rv => ⟨by rw [← rv.length]; exact small_line hz, fun p hp => k _ _ _ (good_new g1 hp) (e1.trans (evo_new g1 hp)) (rep_tup_new g1 hp rv)⟩⟩
      · cases q
    · cases q
theorem i_lst (h : PA X es (tA X.K F ies)) : PE X (.List es pos) (tE X.K F (.lst ies)) :=
  PE.weak (pe_lst h) fun σ H Q ⟨ρ, S, μ, d, S', g, r, q, k⟩ => by
    simp only [ev] at q
    split at q
    · rename_i xs S1 ea
      split at q
      · rename_i hz
        cases q
        exact ⟨ρ, S, μ, xs, _, g, r, ea, fun vs μ1 H1 g1 e1 rv => ⟨by rw [← rv.length]; exact small_line hz, fun p hp => k _ _ _ (good_new g1 hp) (e1.trans (evo_new g1 hp)) (rep_lst_new g1 hp rv)⟩⟩
      · cases q
    · cases q
theorem i_new (h : PA X es (tA X.K F ies)) : PE X (.List es pos) (tE X.K F (.new ies)) :=
  PE.weak (pe_lst h) fun σ H Q ⟨ρ, S, μ, d, S', g, r, q, k⟩ => by
    simp only [ev] at q
    split at q
    · rename_i xs S1 ea
      split at q
      · rename_i hz
        unfold mkList at q
        rw [if_pos rfl] at q
        split at q
        · rename_i hp
          cases q
          exact ⟨ρ, S, μ, xs, _, g, r, ea, fun vs μ1 H1 g1 e1 rv => ⟨by rw [← rv.length]; exact small_line hz, fun p hn => k _ _ _ (good_mk g1 hn rv hp) (e1.trans (evo_mk g1 hn)) ⟨p, rfl, get_last g1.len⟩⟩⟩
        · cases q
      · cases q
    · cases q

def rIxI (K : PySem.W.Frag) : R2 := fun v w H Q => ∃ S μ x i z, Good K S μ H ∧ Seen K S μ H x v ∧ Rep K S μ H i w ∧ ixD x i = some z ∧ Cont K S μ H z Q
theorem ix_I : IxR X (rIxI X.K) := by
  intro value slice pins s σ H v w u1 u2 Q I r1 r2 h hs
  obtain ⟨S, μ, x, i, z, g, hx, hi, e, k⟩ := h
  exact ixD_run e I g hx hi r1 r2 k hs
theorem i_ix (ha : PE X a (tE X.K F ia)) (hb : PE X b (tE X.K F ib)) (hs : PlainIx b := by exact fun _ _ => rfl) : PE X (.Subscript a b pos) (tE X.K F (.ix ia ib)) :=
  PE.weak (pe_ix ix_I ha hb hs) fun σ H Q ⟨ρ, S, μ, d, S', g, r, q, k⟩ => by
    simp only [ev] at q
    split at q
    · cases q
    · rename_i x S1 ea
      split at q
      · cases q
      · rename_i y S2 eb
        split at q
        · cases q
        · rename_i x' sx
          split at q
          · rename_i z ez
            cases q
            exact two g r ea eb fun v w μ2 H2 g2 e2 rx ry => ⟨_, μ2, x', y, _, g2, see_ok g2 rx sx, ry, ez, fun v' H' g3 e3 rz => k v' μ2 H' g3 (e2.trans e3) rz⟩
          · cases q
abbrev POI (X : Cx) (F : CF) (lo : Option Expr) (il : E) : Prop := (lo = none ∧ il = .c .non) ∨ (∃ l, lo = some l ∧ PE X l (tE X.K F il))
def tO (K : PySem.W.Frag) (F : CF) (il : E) : TO := fun σ H Q => ∃ (ρ : Env) (S : Sto) (μ : Mu) (d : D) (o : Option Int) (S' : Sto), Good K S μ H ∧ RelS K S μ H ρ σ ∧ ev F il ρ S = some (d, S') ∧ part? d = some o ∧ ((isNonE il || isIntD d) = true) ∧ ∀ μ' H', Good K S' μ' H' → Evo S μ H S' μ' H' → Q o H'
theorem PO.weak {X : Cx} {e : Option Expr} {t t' : TO} (h : PO X e t) (k : ∀ σ H Q, t' σ H Q → t σ H Q) : PO X e t' := ⟨fun pins s σ H Q I q => h.run pins s σ H Q I (k σ H Q q)⟩
theorem o_none : PO X none (tO X.K F (.c .non)) := PO.weak po_none fun σ H Q ⟨ρ, S, μ, d, o, S', g, r, q, p, _, k⟩ => by
  simp only [ev] at q
  cases q
  cases p
  exact k μ H g (Evo.refl _ _ _)
theorem o_some (ha : PE X a (tE X.K F ia)) (hn : isNonE ia = false := by rfl) : PO X (some a) (tO X.K F ia) := PO.weak (po_some ha) fun σ H Q ⟨ρ, S, μ, d, o, S', g, r, q, p, c, k⟩ => by
  rw [hn, Bool.false_or] at c
  cases d with
  | int i =>
    cases p
    exact ⟨ρ, S, μ, _, _, g, r, q, fun v μ1 H1 g1 e1 rv => ⟨i, rv, k _ _ g1 e1⟩⟩
  | _ => cases c
theorem i_sl {lo hi : Option Expr} {il ih : E} {p2 : Pos} (ha : PE X a (tE X.K F ia)) (hl : PO X lo (tO X.K F il)) (hh : PO X hi (tO X.K F ih)) : PE X (.Subscript a (.Slice lo hi none p2) pos) (tE X.K F (.sl ia il ih)) :=
  PE.weak (pe_slice sl_I ha hl hh) fun σ H Q ⟨ρ, S, μ, d, S', g, r, q, k⟩ => by
    simp only [ev] at q
    split at q
    · cases q
    · rename_i x S1 ea
      split at q
      · cases q
      · rename_i l S2 el
        split at q
        · cases q
        · rename_i h S3 eh
          split at q
          · rename_i x' l' h' sx pl ph
            split at q
            · rename_i hk
              split at q
              · rename_i z ez
                cases q
                rw [Bool.and_eq_true] at hk
                obtain ⟨k1, k2⟩ := hk
                exact ⟨ρ, S, μ, x, S1, g, r, ea, fun v μ1 H1 g1 e1 rv => ⟨ρ, S1, μ1, l, l', S2, g1, r.mono g e1.w, el, pl, k1, fun μ2 H2 g2 e2 =>
                  ⟨ρ, S2, μ2, h, h', _, g2, r.mono g (e1.trans e2).w, eh, ph, k2, fun μ3 H3 g3 e3 => ⟨_, μ3, x', _, g3, see_ok g3 (rv.mono g1 (e2.trans e3).w) sx, ez, fun v' H' g4 e4 rz => k v' μ3 H' g4 ((e1.trans (e2.trans e3)).trans e4) rz⟩⟩⟩⟩
              · cases q
            · cases q
          · cases q
end
end Iv

set_option Elab.async false
set_option linter.all false
set_option maxRecDepth 100000
set_option maxHeartbeats 4000000
namespace Iv
open PySem PySem.Spec PySem.Froz PyProof.Rows L2
theorem perm_of_sub : ∀ {l m : List Str}, l.Nodup → (∀ x ∈ l, x ∈ m) → m.length ≤ l.length → l.Perm m
  | [], m, _, _, hl => by
    have : m = [] := List.length_eq_zero_iff.mp (by simpa using hl)
    rw [this]
  | x :: l, m, nd, hs, hl => by
    have hx := hs x List.mem_cons_self
    have hp := List.perm_cons_erase hx
    obtain ⟨h1, h2⟩ := List.nodup_cons.mp nd
    have he := hp.length_eq
    simp only [List.length_cons] at he hl
    refine (List.Perm.cons x (perm_of_sub h2 (fun y hy => ?_) (by omega))).trans hp.symm
    exact (List.mem_erase_of_ne (fun z : y = x => h1 (by rw [← z]; exact hy))).mpr (hs y (List.mem_cons_of_mem _ hy))
/-- a set at a that holds just the texts l -/
structure TxAt (P : Program) (w : World) (h : Heap) (a : Addr) (l : List Str) (D : SD) : Prop where
  get : h.get? a = some (sObj "set" D)
  ok : TxOk P w D l
  ris : Ris D.2.2.place.toList
  led : w.params.followText "set-order" = true ∨ D.2.2.led = true
  nd : l.Nodup
theorem TxAt.keep {P : Program} {w : World} {h h' : Heap} {a : Addr} {l : List Str} {D : SD} (R : TxAt P w h a l D) (k : ∀ o, h.get? a = some o → h'.get? a = some o) : TxAt P w h' a l D := ⟨k _ R.get, R.ok, R.ris, R.led, R.nd⟩
theorem tail_ris {ep : Nat} {es1 : Array (Int × Value)} {t2 : SetTable} {b : Bool} (r : Ris t2.place.toList) : Ris (tailTx ep es1 t2 b).2.2.place.toList ∧ (tailTx ep es1 t2 b).2.2.led = t2.led := by
  unfold tailTx
  split
  · exact ⟨relayAll_ris _ _ _, relayAll_led _ _ _⟩
  · exact ⟨r, rfl⟩
theorem addTx_ris {h : Int} {v : Value} {D : SD} (r : Ris D.2.2.place.toList) : Ris (addTx h v D).2.2.place.toList ∧ (addTx h v D).2.2.led = D.2.2.led := by
  have h1 := layNew_ris D.2.2 D.1 h v r
  have h2 := layNew_led D.2.2 D.1 h v
  unfold addTx
  by_cases c : (layNew D.2.2 D.1 h v).2.1.plain = true
  · rw [if_pos c]
    have := tail_ris (ep := D.2.1) (es1 := (layNew D.2.2 D.1 h v).1) (t2 := { (layNew D.2.2 D.1 h v).2.1 with plain := false }) (b := (layNew D.2.2 D.1 h v).2.2.1) h1
    exact ⟨this.1, this.2.trans h2⟩
  · rw [if_neg c]
    have := tail_ris (ep := D.2.1) (es1 := (layNew D.2.2 D.1 h v).1) (t2 := (layNew D.2.2 D.1 h v).2.1) (b := (layNew D.2.2 D.1 h v).2.2.1) h1
    exact ⟨this.1, this.2.trans h2⟩
section
variable {P : Program} {w : World} {A : Around} {E : Value → Shared → Prop} {s : Shared}
/-- a text that is in already -/
theorem add_old {a : Addr} {T : String} {D : SD} {l : List Str} {k : Str} {u : Tok} {Q : Bool → Shared → Prop} (ho : s.heap.get? a = some (sObj T D)) (F : TxOk P w D l) (hk : k ∈ l) (hb : l.length < scanBound)
    (h : Q false s) : wpAny (model P w) A (setAddHashed a (.str k u) (hashStr w k)) Q E s := by
  obtain ⟨es, ep, t⟩ := D
  have hd : (sObj T (es, ep, t)).data = .set es ep t := rfl
  have hf : t.fits es.size = true := F.fit
  have hel : ElemsOf (strKind P w) es.toList := F.el
  have hsz : es.size = l.length := F.sz
  have hb0 : es.size < scanBound := by omega
  have hkey : (strKind P w).is k (.str k u) = true := is_str k u
  have hsome : ∃ j, List.findIdx? (fun e => (strKind P w).is k e.2) es.toList = some j := by
    cases hr : List.findIdx? (fun e => (strKind P w).is k e.2) es.toList with
    | some j => exact ⟨j, rfl⟩
    | none =>
      obtain ⟨e, he, q⟩ := (F.mem k).mp hk
      have c := List.findIdx?_eq_none_iff.mp hr e he
      rw [q] at c
      cases c
  obtain ⟨j, hj⟩ := hsome
  unfold setAddHashed setAddHashedIn
  refine wpAny_holding (wpAny_bind (wpAny_setState_of ho hd hf ?_))
  dsimp only
  rw [byScan_of rfl hb0 hel]
  simp only [↓reduceIte]
  unfold setAddByScan
  refine wpAny_bind ?_
  refine wpAny_bind (wpAny_rule ?_)
  refine wpAny_bind (wpAny_setScan_of (knd := strKind P w) (k := k) hkey ho hd hf hel ?_)
  rw [hj]
  dsimp only
  exact wpAny_pure (wpAny_pure h)
/-- a text put into the set -/
theorem add_tx {a : Addr} {D : SD} {l : List Str} {k : Str} {u : Tok} {Q : Bool → Shared → Prop} (R : TxAt P w s.heap a l D) (hb : l.length + 1 < scanBound)
    (h : ∀ b h' D', Heap.SameBut a s.heap h' → TxAt P w h' a (fresh1 l [k]) D' → Q b { s with heap := h' }) : wpAny (model P w) A (setAddHashed a (.str k u) (hashStr w k)) Q E s := by
  by_cases hk : k ∈ l
  · refine add_old R.get R.ok hk (by omega) (h false s.heap D (Heap.SameBut.refl _ _) ?_)
    rw [fresh1, if_pos hk]
    exact R
  · refine add_x R.get R.ok hk hb (h true _ (addTx (hashStr w k) (.str k u) D) (Heap.SameBut.update _ _ _) ?_)
    rw [fresh1, if_neg hk, fresh1]
    obtain ⟨r1, r2⟩ := addTx_ris (h := hashStr w k) (v := .str k u) R.ris
    have ok := add_ok (k := k) u R.ok
    refine ⟨get_upd _ R.get rfl, ⟨ok.el, fun y => ?_, by rw [ok.sz]; simp, ok.fit⟩, r1, R.led.imp id fun z => r2.trans z, ?_⟩
    · rw [← ok.mem y]
      simp [or_comm]
    · rw [List.nodup_append]
      exact ⟨R.nd, by simp, fun x hx y hy z => hk (by rw [← List.mem_singleton.mp hy, ← z]; exact hx)⟩
theorem strs_get : ∀ {us : List Value} {xs : List Str}, StrsAre us xs → ∀ (i : Nat) (v : Value), us[i]? = some v → ∃ x t, xs[i]? = some x ∧ v = .str x t
  | _, _, .nil, i, v, h => by simp at h
  | _, _, .cons n t hr, 0, v, h => by simp at h; exact ⟨n, t, rfl, h.symm⟩
  | _, _, .cons n t hr, i + 1, v, h => by
    simp only [List.getElem?_cons_succ] at h ⊢
    exact strs_get hr i v h
theorem fresh1_append : ∀ (l m f : List Str), fresh1 f (l ++ m) = fresh1 (fresh1 f l) m
  | [], _, _ => rfl
  | x :: l, m, f => by
    rw [List.cons_append, fresh1, fresh1]
    split
    · exact fresh1_append l m f
    · exact fresh1_append l m _
theorem fresh1_len : ∀ (l f : List Str), (fresh1 f l).length ≤ f.length + l.length
  | [], f => Nat.le_refl _
  | x :: l, f => by
    rw [fresh1, List.length_cons]
    split
    · have := fresh1_len l f; omega
    · have := fresh1_len l (f ++ [x]); simp only [List.length_append, List.length_cons, List.length_nil] at this; omega
theorem loop_tx {I : Addr} {fp wr : List Addr} {G : Array GenState → Array GenState → Prop} {n : Nat} {Pv : Nat → Value → Prop} {St : Nat → Shared → Prop} {R : Result → Shared → Prop}
    (W : WalksS P w A.in1 I fp wr G n Pv St) (S : Addr) (hSf : S ∉ fp) (xs : List Str) (hn : n = xs.length) (hfew : xs.length + 1 < scanBound) (hval : ∀ i v, Pv i v → ∃ x t, xs[i]? = some x ∧ v = .str x t) :
    ∀ (k i : Nat) (s : Shared), n - i = k → i ≤ n → St i s → (∃ D, TxAt P w s.heap S (fresh1 [] (xs.take i)) D) →
      (∀ s' D, Moved (S :: wr) G s s' → TxAt P w s'.heap S (fresh1 [] xs) D → R (.ok (.ret .none)) s') →
      codeAny (model P w) A (.builtin "set.update.loop" ⟨[.ref S, .ref I], []⟩) R s := by
  have hSw : S ∉ wr := fun h => hSf (W.sub _ h)
  have hsub : ∀ b ∈ wr, b ∈ S :: wr := fun b hb => List.mem_cons_of_mem _ hb
  intro k
  induction k with
  | zero =>
    intro i s hk' hi hst ⟨D, hS⟩ hR
    have hin : i = n := by omega
    subst hin
    refine codeAny_builtin PyProof.Rows.F.entry_set_update_loop ?_
    rw [Around.under_plainId PyProof.Rows.F.plain_set_update_loop _]
    show wpAny _ A.in1 (pyNext (.ref I) >>= _) _ _ s
    refine wpAny_bind (W.done s _ _ hst fun s' hm => ?_)
    show wpAny _ A.in1 (ret Value.none) _ _ s'
    rw [hn, List.take_length] at hS
    exact wpAny_pure (hR s' D (hm.mono hsub) (hS.keep fun o e => hm.heap S o hSw e))
  | succ k ih =>
    intro i s hk' hi hst ⟨D, hS⟩ hR
    have hlt : i < n := by omega
    refine codeAny_builtin PyProof.Rows.F.entry_set_update_loop ?_
    rw [Around.under_plainId PyProof.Rows.F.plain_set_update_loop _]
    show wpAny _ A.in1 (pyNext (.ref I) >>= _) _ _ s
    refine wpAny_bind (W.item i s _ _ hlt hst fun v s' hP hst' hm => ?_)
    obtain ⟨x, u, hx, rfl⟩ := hval i v hP
    have hS' : TxAt P w s'.heap S (fresh1 [] (xs.take i)) D := hS.keep fun o e => hm.heap S o hSw e
    have hl : (fresh1 [] (xs.take i)).length + 1 < scanBound := by
      have := fresh1_len (xs.take i) []
      rw [List.length_take] at this
      simp only [List.length_nil] at this
      omega
    have hnext : xs.take (i + 1) = xs.take i ++ [x] := by rw [List.take_add_one, hx]; rfl
    show wpAny _ A.in1 (holding [Value.str x u] (setAdd S (.str x u)) >>= _) _ _ s'
    refine wpAny_bind (wpAny_holding ?_)
    unfold setAdd
    refine wpAny_holding ?_
    refine wpAny_bind ((strKind P w).pyHash (k := x) (is_str x u) ?_)
    refine add_tx (s := { s' with toks := s'.toks + 1 }) hS' hl fun b h' D' hsb hS2 => ?_
    rw [← fresh1_append, ← hnext] at hS2
    refine wpAny_pure ⟨plainId_quiet PyProof.Rows.F.plain_set_update_loop _, ih (i + 1) _ (by omega) hlt (W.frame _ s' _ _ hst' (Nat.le_succ _) fun b hb o e => ?_) ⟨D', hS2⟩ fun s'' D2 hm'' hS'' => ?_⟩
    · rw [hsb.2 b (fun h : b = S => hSf (by rw [← h]; exact hb))]; exact e
    · refine hR s'' D2 (Moved.trans W.gtrans ((hm.mono hsub).then_heap (Nat.le_succ _) fun b o hb e => ?_) hm'') hS''
      rw [hsb.2 b (fun h : b = S => hb (by rw [h]; exact List.mem_cons_self))]; exact e

/-- set(xs), a list of texts -/
theorem call_set_tx {l : Addr} {items : Array Value} {xs : List Str} {Q : Value → Shared → Prop} (hh : A.handled = none) (hl : s.heap.IsList l items) (hit : StrsAre items.toList xs) (hfew : xs.length + 1 < scanBound)
    (h : ∀ (h' : Heap) (tk : Nat) D, TxAt P w h' s.heap.objs.size (fresh1 [] xs) D → (∀ b o, s.heap.get? b = some o → h'.get? b = some o) → Q (.ref s.heap.objs.size) { s with heap := h', toks := tk }) :
    wpAny (model P w) A (call (.type "set") [.ref l]) Q E s := by
  have hisz : items.size = xs.length := by
    have q := hit.length
    rw [Array.length_toList] at q
    exact q
  obtain ⟨c, tl, hmro⟩ := PySem.F.called_set.mro
  have hmade := PySem.F.called_set.made
  have hsub := PySem.F.called_set.sub
  refine wpAny_call (codeAny_of_tree ?_)
  show wpAny _ _ (callAny (.type "set") _) _ _ _
  refine wpAny_pure ⟨Code.quiet_builtin _ (by decide +kernel), codeAny_builtin PySem.F.entry_type_call ?_⟩
  rw [Around.under_plain (weight_type_call_type "set" [.ref l] []) rfl]
  have h1 := PySem.F.called_set.notType
  have h2 := PySem.F.called_set.canCreate
  have hct := PySem.F.typeCall_set_1 (.ref l)
  repeat (any_goals (first | assumption | wp_step))

  refine codeAny_mono (code_set_led1 (.ref l) (E := E) (Q₁ := fun obj s₁ => obj = .ref s.heap.objs.size ∧ s₁ = { s with heap := s.heap.push (sObj "set" (#[], 0, .fresh 0 0 (!w.params.followText "set-order"))) }) ⟨rfl, rfl⟩) fun r s₁ hr => ?_
  cases r with
  | error e => exact hr
  | ok fl =>
    cases fl with
    | ret obj =>
      obtain ⟨rfl, rfl⟩ := hr
      have hS : (s.heap.push (sObj "set" (#[], 0, .fresh 0 0 (!w.params.followText "set-order")))).get? s.heap.objs.size = some (sObj "set" (#[], 0, .fresh 0 0 (!w.params.followText "set-order"))) := Heap.get?_push_size _ rfl
      have hT : Shared.TypeIs { s with heap := s.heap.push (sObj "set" (#[], 0, .fresh 0 0 (!w.params.followText "set-order"))) } (.ref s.heap.objs.size) "set" := ⟨_, hS, rfl⟩
      have hli := PySem.F.called_set.init.lookup
      have hbi := PySem.F.called_set.init.bind (.ref s.heap.objs.size)
      repeat (any_goals (first | assumption | wp_step))

      refine codeAny_mono (codeAny_call_builtin (R := wants (fun r s₂ => r = .none ∧ ∃ h' tk D, s₂ = { s with heap := h', toks := tk } ∧ TxAt P w h' s.heap.objs.size (fresh1 [] xs) D ∧
          (∀ b o, s.heap.get? b = some o → h'.get? b = some o)) E) PySem.F.called_set.init.plain PySem.F.entry_set_init (check_set_init_1 hT ?_)) fun r₂ s₂ hr₂ => ?_
      · obtain ⟨ol, hol, hcl, nl, hdl⟩ := hl
        obtain ⟨ocls, odict, odata, oslots⟩ := ol
        simp only at hcl hdl
        subst hcl; subst hdl
        have hol' : (s.heap.push (sObj "set" (#[], 0, .fresh 0 0 (!w.params.followText "set-order")))).get? l = some { cls := .type "list", dict := odict, data := .seq items nl, slots := oslots } := Heap.get?_push_of_some _ hol
        have hsls := PySem.F.sub_list_set
        have hslf := PySem.F.sub_list_frozenset
        have hne : (Value.type "list" == Value.type "dict") = false := by decide
        have hl1 : (s.heap.push (sObj "set" (#[], 0, .fresh 0 0 (!w.params.followText "set-order")))).IsList l items := ⟨_, hol', rfl, nl, rfl⟩
        unfold Builtin.«set.__init__» noKeywords Builtin.Frozenset.updateFrom
        generalize hPI : pyIter = PI
        wp_walk
        subst hPI

        refine wpAny_pyIter_list hl1 ?_
        refine wpAny_bind (wpAny_runValue ?_)
        have hlS : l < s.heap.objs.size := Heap.lt_size hol
        have hh3 : A.in1.in1.in1.handled = none := by simp [hh]
        have hneI : l ≠ (s.heap.push (sObj "set" (#[], 0, .fresh 0 0 (!w.params.followText "set-order")))).objs.size := by
          rw [Heap.size_push]; exact Nat.ne_of_lt (Nat.lt_succ_of_lt hlS)
        have hSf : s.heap.objs.size ∉ [(s.heap.push (sObj "set" (#[], 0, .fresh 0 0 (!w.params.followText "set-order")))).objs.size, l] := by
          rw [Heap.size_push]; simp only [List.mem_cons, List.mem_singleton, List.not_mem_nil, or_false, not_or]
          exact ⟨Nat.ne_of_lt (Nat.lt_succ_self _), Nat.ne_of_gt hlS⟩
        have hval : ∀ (i : Nat) (v : Value), items[i]? = some v → ∃ x t, xs[i]? = some x ∧ v = .str x t := fun i v hv => strs_get hit i v (by rw [Array.getElem?_toList]; exact hv)
        refine loop_tx ((Walks.list hh3 _ l hneI items).toS) s.heap.objs.size hSf xs hisz hfew hval (items.size - 0) 0 _ (by omega) (Nat.zero_le _)
          ⟨⟨_, Heap.get?_push_size _ rfl, rfl, rfl⟩, (hl1.push _)⟩ ?hS0 ?hR
        case hS0 =>
          refine ⟨_, Heap.get?_push_of_some _ hS, TxOk.nil rfl, ?_, ?_, List.nodup_nil⟩
          · exact List.Pairwise.nil
          · show w.params.followText "set-order" = true ∨ (!w.params.followText "set-order") = true
            cases w.params.followText "set-order" with
            | true => exact .inl rfl
            | false => exact .inr rfl
        case hR =>
          intro s' D hm hS'
          obtain ⟨h', g2, d', tk', os'⟩ := s'
          have eg : g2 = s.gens := hm.gens
          have ed : d' = s.drawn := hm.drawn
          have eo : os' = s.os := hm.os
          subst eg; subst ed; subst eo
          show wpAny _ _ _ _ _ _
          refine wpAny_pure ?_
          show wpAny _ _ (ret Value.none) _ _ _
          refine wpAny_pure ⟨rfl, h', tk', D, rfl, hS', fun b o e => ?_⟩
          have hb := Heap.lt_size e
          have hb1 : b ≠ s.heap.objs.size := Nat.ne_of_lt hb
          have hb2 : b ≠ (s.heap.push (sObj "set" (#[], 0, .fresh 0 0 (!w.params.followText "set-order")))).objs.size := by
            rw [Heap.size_push]; exact Nat.ne_of_lt (Nat.lt_succ_of_lt hb)
          exact hm.heap b o (by simp only [List.mem_cons, List.mem_singleton, List.not_mem_nil, or_false, not_or]; exact ⟨hb1, hb2⟩) (Heap.get?_push_of_some _ (Heap.get?_push_of_some _ e))

      · cases r₂ with
        | error e => exact hr₂
        | ok fl₂ =>
          cases fl₂ with
          | ret r =>
            obtain ⟨rfl, h', tk, D, rfl, hS', hk'⟩ := hr₂
            repeat (any_goals (first | assumption | wp_step))
            exact h _ _ _ hS' hk'
          | _ => exact hr₂.elim
    | _ => exact hr.elim

def skey : Value → Str
  | .str k _ => k
  | _ => Str.empty
/-- sorted(s), s a set of texts -/
theorem sorted_tx {a : Addr} {l : List Str} {D : SD} {Q : Value → Shared → Prop} (R : TxAt P w s.heap a l D) (hh : A.handled = none) (hb : l.length ≤ 1000) (hu : A.units + 3 < cLine)
    (hQ : ∀ s' p (out : List Value) (c : Nat), (∀ b o, s.heap.get? b = some o → s'.heap.get? b = some o) → s'.gens = s.gens → s'.os = s.os → s.heap.objs.size ≤ p → s'.heap.get? p = some (seqObj "list" out.toArray c) → StrsAre out (sortS l) → Q (.ref p) s') :
    wpAny (model P w) A (call (.builtin "sorted") [.ref a]) Q E s := by
  obtain ⟨ho, ok, hr, hl, nd⟩ := R
  obtain ⟨es, ep, t⟩ := D
  have hsz : es.size = l.length := ok.sz
  refine Calls.call_function_entry kind_sorted plain_sorted entry_sorted (args_sorted1 _) ?_
  unfold Builtin.«sorted»
  refine wpAny_bind (m := checkCount "sorted" 1 1 _) (wpAny_pure ?_)
  refine wpAny_bind (collect_set (A := A.in1) hh ⟨_, ho, rfl, rfl⟩ ok.fit (by show es.size < scanBound; unfold scanBound; omega) hr hl fun s1 vs k1 hz g1 o1 pm => ?_)
  have hk : ∀ v ∈ vs, ∃ k t, v = Value.str k t ∧ ∃ e ∈ es.toList, e.2 = v := fun v hv => by
    obtain ⟨e, he, q⟩ := List.mem_map.mp (pm.mem_iff.mp hv)
    obtain ⟨⟨k, h1, _⟩, _⟩ := ok.el e he
    have h1' : Value.isStrOf k e.2 = true := h1
    rw [q] at h1'
    cases v with
    | str k' t' => exact ⟨k', t', rfl, e, he, q⟩
    | _ => simp [Value.isStrOf] at h1'
  have hS : ∀ us : List Value, (∀ v ∈ us, ∃ k t, v = Value.str k t) → StrsAre us (us.map skey) := by
    intro us
    induction us with
    | nil => intro _; exact .nil
    | cons v us ih =>
      intro hv
      obtain ⟨k, t, rfl⟩ := hv v List.mem_cons_self
      exact .cons k t (ih fun u hu => hv u (List.mem_cons_of_mem _ hu))
  have hvs : StrsAre vs (vs.map skey) := hS vs fun v hv => by
    obtain ⟨k, t, e, _⟩ := hk v hv
    exact ⟨k, t, e⟩
  have hvl : vs.length = l.length := by rw [pm.length_eq, List.length_map, Array.length_toList, hsz]
  have hperm : l.Perm (vs.map skey) := perm_of_sub nd (fun x hx => by
    obtain ⟨e, he, q⟩ := (ok.mem x).mp hx
    have hv : e.2 ∈ vs := pm.mem_iff.mpr (List.mem_map.mpr ⟨e, he, rfl⟩)
    obtain ⟨k, t, e1, _⟩ := hk _ hv
    refine List.mem_map.mpr ⟨e.2, hv, ?_⟩
    have q' : Value.isStrOf x e.2 = true := q
    rw [e1] at q' ⊢
    simpa [Value.isStrOf, skey] using q') (by rw [List.length_map, hvl]; exact Nat.le_refl _)
  refine wpAny_bind (wpAny_newList ?_ (by rw [hvl, sizeLine_eq]; omega))
  have hoL : (s1.heap.push (seqObj "list" vs.toArray 0)).get? s1.heap.objs.size = some (seqObj "list" vs.toArray 0) := Heap.get?_push_size _ rfl
  refine wpAny_bind (wpAny_holding (wpAny_call_entry slot_list_sort ⟨_, hoL, rfl⟩ entry_list_sort (PySem.W.list_sort_vals (s := { s1 with heap := s1.heap.push (seqObj "list" vs.toArray 0) }) hoL
    (sorts_strs (s := { s1 with heap := PySem.W.sortingHeap (s1.heap.push (seqObj "list" vs.toArray 0)) s1.heap.objs.size vs }) hvs (by show A.units + 1 + 1 < cLine; omega)) (by rw [hvl, sizeLine_eq]; omega) ⟨_, rfl, ?_⟩) (args_list_sort _)))
  have hout := sorted_out (h' := PySem.W.sortingHeap (s1.heap.push (seqObj "list" vs.toArray 0)) s1.heap.objs.size vs) hvs
  rw [← sortS_perm hperm] at hout
  obtain ⟨c, hc⟩ := sortedHeap_at (vs := vs) (out := (PySem.W.sortVals (PySem.W.dataKind (PySem.W.sortingHeap (s1.heap.push (seqObj "list" vs.toArray 0)) s1.heap.objs.size vs) ((vs.map skey).map PyData.str)) false vs vs).toArray) hoL
  refine wpAny_pure ⟨_, rfl, hQ _ s1.heap.objs.size _ c (fun b u e => ?_) g1 o1 hz hc hout⟩
  have q := k1 b u e
  have hlt := Heap.lt_size q
  show (sortedHeap (s1.heap.push (seqObj "list" vs.toArray 0)) s1.heap.objs.size vs _).get? b = some u
  rw [sortedHeap_old (Nat.ne_of_lt hlt) (by rw [size_push']; exact Nat.lt_succ_of_lt hlt)]
  exact Heap.get?_push_of_some _ q
end
end Iv

set_option Elab.async false
set_option linter.all false
set_option maxRecDepth 100000
set_option maxHeartbeats 1000000
namespace Iv
open PySem PySem.Spec PySem.Froz PyProof.Rows L2
def TxO (P : Program) (w : World) (a : Addr) (l : List Str) : HO := .ext fun h => ∃ D, TxAt P w h a l D
section
variable {X : Cx} {F : CF} {e : Expr} {ie : E} {pos : Pos}
theorem txO_new {P : Program} {w : World} {H : Hp} {h : Heap} {a : Addr} {l : List Str} {D : SD} (R : TxAt P w h a l D) : ObjOk P w H h a (TxO P w a l) :=
  ⟨⟨D, R⟩, ⟨_, R.get⟩, fun _ _ ⟨D', R'⟩ k => ⟨D', R'.keep k⟩⟩
theorem txO_get {pins : List (Addr × Obj)} {σ : L2.St} {H : Hp} {s : Shared} {a : Addr} {l : List Str} (I : Inv X pins σ H s) (ha : H a = some (TxO X.prog X.w a l)) : ∃ D, TxAt X.prog X.w s.heap a l D := (I.hok a _ ha).1
def rSetTx (K : PySem.W.Frag) (P : Program) (w : World) : List V → Hp → VK → Prop := fun vs H Q => ∃ (a : Addr) (xs : List Str), vs = [V.ref a] ∧ SqL K H a (xs.map V.str) ∧ xs.length ≤ 1000 ∧ ∀ p, H p = none → Q (.ref p) (upd H p (TxO P w p (fresh1 [] xs)))
theorem cr_setTx (hc : X.calm = true) : CallR X (.type "set") (rSetTx X.K X.prog X.w) := by
  intro pins s σ H vs us Q I r h
  obtain ⟨a, xs, rfl, hs, hl, q⟩ := h
  obtain ⟨its, rv, hL, _⟩ := I.list hs
  rw [Vals.ref1 r]
  refine call_set_tx (I.ok.hd hc) hL.isList (by simpa using rv.strs) (by unfold scanBound; omega) fun h' tk D R hk => ?_
  exact ⟨.ref _, upd H s.heap.objs.size (TxO X.prog X.w s.heap.objs.size (fresh1 [] xs)), I.laid (t' := tk) hk (Nat.le_refl _) (txO_new R), rfl, q _ (I.hok.fresh (Nat.le_refl _))⟩
def rSortTx (P : Program) (w : World) : List V → Hp → VK → Prop := fun vs H Q => ∃ (a : Addr) (l : List Str), vs = [V.ref a] ∧ H a = some (TxO P w a l) ∧ l.length ≤ 1000 ∧ ∀ p, H p = none → Q (.ref p) (upd H p (.lst ((sortS l).map V.str)))
theorem cr_sortTx (hc : X.calm = true) (hu : X.A.units + 200 < cLine) : CallR X (.builtin "sorted") (rSortTx X.prog X.w) := by
  intro pins s σ H vs us Q I r h
  obtain ⟨a, l, rfl, ha, hl, q⟩ := h
  obtain ⟨D, R⟩ := txO_get I ha
  rw [Vals.ref1 r]
  refine sorted_tx R (I.ok.hd hc) hl (by omega) fun s' p out c k g o hp hg ho => ?_
  have hlen : ((sortS l).map V.str).length ≤ sizeLine := by rw [List.length_map, (sortS_is l).length_eq, sizeLine_eq]; omega
  have hn : H p = none := I.hok.fresh hp
  have J : Inv X pins σ (upd H p (.lst ((sortS l).map V.str))) { s with heap := s'.heap, gens := s'.gens, drawn := s'.drawn, toks := s'.toks } :=
    I.call (ch := []) (Un.laid k hp hn) (I.hok.laid k hp ⟨hlen, out, c, vals_of_strs ho, hg⟩) (by rw [g]; exact I.bare) (fun _ z => nomatch z)
  have e : s' = { s with heap := s'.heap, gens := s'.gens, drawn := s'.drawn, toks := s'.toks } := by
    cases s'
    cases s
    cases o
    rfl
  rw [e]
  exact ⟨.ref p, _, J, rfl, q p hn⟩
theorem fresh1_le (ss : List Str) : (fresh1 [] ss).length ≤ ss.length := by
  have := fresh1_len ss []
  simpa using this
theorem i_sset {x y : Str} {p p2 pos2 : Pos} (ok : Cok X) (hg : Gl X x) (hm : X.mg x = none) (hv : bootBuiltins x = some (.builtin "sorted")) (hg2 : Gl X y) (hm2 : X.mg y = none) (hv2 : bootBuiltins y = some (.type "set")) (ha : PE X e (tE X.K F ie))
    (hn : x ≠ "__name__" := by decide) (hdb : (x == ("__debug__" : Str)) = false := by decide) (hn2 : y ≠ "__name__" := by decide) (hdb2 : (y == ("__debug__" : Str)) = false := by decide)
    (he : starEach [Expr.Call (.Name y p2) [e] [] pos2] X.env = (false, eval (Expr.Call (.Name y p2) [e] [] pos2) X.env) :: starEach [] X.env := by rfl) (hpl : (backTo pos (starEach ([] : List Expr) X.env)).any (·.1) = false := by rfl)
    (he2 : starEach [e] X.env = (false, eval e X.env) :: starEach [] X.env := by rfl) (hpl2 : (backTo pos2 (starEach ([] : List Expr) X.env)).any (·.1) = false := by rfl) :
    PE X (.Call (.Name x p) [.Call (.Name y p2) [e] [] pos2] [] pos) (tE X.K F (.sset ie)) :=
  PE.weak (pe_callB (r := rSortTx X.prog X.w) (cr_sortTx ok.calm ok.un) hg hm hv (pa_cons (pe_callTy (r := rSetTx X.K X.prog X.w) (cr_setTx ok.calm) hg2 hm2 hv2 (pa_cons ha pa_nil he2) hn2 hdb2 he2 hpl2) pa_nil he) hn hdb he hpl)
    fun σ H Q ⟨ρ, S, μ, d, S', g, r, q, k⟩ => by
      simp only [ev] at q
      split at q
      · cases q
      · rename_i z S1 ea
        split at q
        · rename_i xs sx
          split at q
          · rename_i ss hss
            split at q
            · rename_i hl
              rw [decide_eq_true_eq] at hl
              cases q
              refine ⟨ρ, S, μ, z, _, g, r, ea, fun v μ1 H1 g1 e1 rv => ?_⟩
              obtain ⟨a, vs, rfl, qa, ra⟩ := see_ok g1 rv sx
              have ew := reps_strs ra hss
              subst ew
              refine ⟨a, ss, rfl, qa.l, hl, fun p hp => ?_⟩
              have g2 := good_new (o := TxO X.prog X.w p (fresh1 [] ss)) g1 hp
              have e2 := evo_new (o := TxO X.prog X.w p (fresh1 [] ss)) g1 hp
              refine ⟨p, fresh1 [] ss, rfl, upd_same, by have := fresh1_le ss; omega, fun p2 hp2 => ?_⟩
              exact k _ _ _ (good_new g2 hp2) ((e1.trans e2).trans (evo_new g2 hp2)) (rep_lst_new g2 hp2 (strs_reps _))
            · cases q
          · cases q
        · cases q
end
end Iv

set_option Elab.async false
set_option linter.all false
set_option maxRecDepth 100000
set_option maxHeartbeats 1000000
namespace Iv
open PySem PySem.Spec PyProof.Rows L2

/-- a def's promise, where no repr is under way -/
abbrev SpI := List V → Hp → VK → Prop
structure FnI (P : Program) (w : World) (K : PySem.W.Frag) (mg : Str → Option Value) (base : Heap) (k : Nat) (f : Addr) (fd : FuncData) (ps : List Str) (sp : SpI) : Prop where
  len : ∀ vs H Q, sp vs H Q → vs.length = ps.length
  run : ∀ (A : Around) (outer : List PySem.Env) (s : Shared) (H : Hp) (args : Args) (us : List Value) (vs : List V) (Q : VK), Room k A → A.guards = some [] → Env0 P w K mg base A outer s H → BindsTo s fd args (ps.zip us) → Vals vs us → sp vs H Q →
    codeAny (model P w) A (.call (.ref f) args) (CR L2.CX0 outer P w H s Q L2.E0) s
theorem FnI.mono {P : Program} {w : World} {K : PySem.W.Frag} {mg : Str → Option Value} {base : Heap} {j k : Nat} {f : Addr} {fd : FuncData} {ps : List Str} {sp : SpI} (F : FnI P w K mg base j f fd ps sp) (h : j ≤ k) : FnI P w K mg base k f fd ps sp :=
  ⟨F.len, fun A outer s H args us vs Q hr => F.run A outer s H args us vs Q (hr.mono h)⟩
/-- what the evaluation of a def promises -/
def spI (K : PySem.W.Frag) (F : CF) (ar fi : Nat) : SpI := fun vs H Q => ∃ (S : Sto) (μ : Mu) (ds : List D) (d : D) (S' : Sto), Good K S μ H ∧ Reps K S μ H ds vs ∧ ds.length = ar ∧ F fi ds S = some (d, S') ∧ ContS K S μ H S' d Q

section
variable {X : Cx} {F : CF} {a b c e : Expr} {es : List Expr} {ia ib ic ie : E} {ies : Es} {pos : Pos}
/-- a def that may be called here -/
structure CallOk (X : Cx) (F : CF) (fi ar : Nat) (x : Str) : Prop where
  ar_ : ∀ ds S r, F fi ds S = some r → ds.length = ar
  ex : ∃ (f : Addr) (fd : FuncData) (ps : List Str) (k : Nat), X.mg x = some (.ref f) ∧ PySem.W.keepIn X.K (.ref f) = true ∧ Binds X.K fd ps [] ∧ Room k X.A ∧ FnI X.prog X.w X.K X.mg X.base k f fd ps (spI X.K F ar fi)
/-- the callee runs -/
theorem run_I {pins : List (Addr × Obj)} {σ : L2.St} {H : Hp} {s : Shared} {Q : VK} {args : Args} {us : List Value} {vs : List V} {k : Nat} {f : Addr} {fd : FuncData} {ps : List Str} {sp : SpI} (G : FnI X.prog X.w X.K X.mg X.base k f fd ps sp) (hr : Room k X.A) (hgd : X.A.guards = some [])
    (I : Inv X pins σ H s) (hb : BindsTo s fd args (ps.zip us)) (r : Vals vs us) (h : sp vs H Q) : codeAny (model X.prog X.w) X.A (.call (.ref f) args) (fun r s' => match r with | .ok (.ret v) => EP X pins σ Q v s' | .ok _ => False | .error e => X.xe e s') s :=
  codeAny_mono (G.run X.A X.stack s H args us vs Q hr hgd I.env0 hb r h) fun r s' hq => by
    cases r with
    | error e => exact False.elim hq
    | ok fl =>
      cases fl with
      | ret u => exact I.after hq
      | next => exact False.elim hq
      | brk => exact False.elim hq
      | cont => exact False.elim hq
theorem tA_run {K : PySem.W.Frag} {σ : L2.St} {H : Hp} {R : List V → Hp → Prop} {ρ : Env} {S S1 : Sto} {μ : Mu} {xs : List D} (g : Good K S μ H) (r : RelS K S μ H ρ σ) (q : evs F ies ρ S = some (xs, S1))
    (k : ∀ vs μ1 H1, Good K S1 μ1 H1 → Evo S μ H S1 μ1 H1 → Reps K S1 μ1 H1 xs vs → R vs H1) : tA K F ies σ H R := ⟨ρ, S, μ, xs, S1, g, r, q, k⟩
/-- f(e, ..) -/
theorem i_call {fi ar : Nat} {x : Str} {p : Pos} (ok : Cok X) (hg : Gl X x) (C : CallOk X F fi ar x) (ha : PA X (e :: es) (tA X.K F ies)) (hdb : (x == ("__debug__" : Str)) = false := by decide)
    (he : starEach (e :: es) X.env = (false, eval e X.env) :: starEach es X.env := by rfl) (hpl : (backTo pos (starEach es X.env)).any (·.1) = false := by rfl) : PE X (.Call (.Name x p) (e :: es) [] pos) (tE X.K F (.call fi ies)) := by
  obtain ⟨f, fd, ps, k, hm, hk, hb, hr, G⟩ := C.ex
  refine ⟨fun pins s σ H Q I ⟨ρ, S, μ, d, S', g, r, q, kk⟩ => ?_⟩
  simp only [ev] at q
  split at q
  · rename_i xs S1 ea
    refine wpAny_Call_Name_kw (ld_glob I hg hm ?_ hdb)
    refine PySem.W.callWith_K (h₀ := X.base) I.ok.mod.kin hk (thn (ha.run pos pins s σ H (fun vs H1 => spI X.K F ar fi vs H1 Q) I (tA_run g r ea fun vs μ1 H1 g1 e1 rv => ?_)) ?_) he hpl
    · exact ⟨S1, μ1, xs, d, S', g1, rv, C.ar_ _ _ _ q, q, fun v μ2 H2 g2 e2 rd => kk v μ2 H2 g2 (e1.trans e2) rd⟩
    · rintro us s1 ⟨vs, H1, I1, rr, hq⟩
      have hl : (us ++ []).length = ps.length := by rw [List.append_nil, ← rr.length]; exact G.len _ _ _ hq
      have hbb := hb s1 us I1.kIn hl
      rw [List.append_nil] at hbb
      exact ⟨I1.kIn, wpAny_call (run_I G hr ok.gd I1 hbb rr hq)⟩
  · cases q
/-- f() -/
theorem i_call0 {fi ar : Nat} {x : Str} {p : Pos} (ok : Cok X) (hg : Gl X x) (C : CallOk X F fi ar x) (hdb : (x == ("__debug__" : Str)) = false := by decide) : PE X (.Call (.Name x p) [] [] pos) (tE X.K F (.call fi .nil)) := by
  obtain ⟨f, fd, ps, k, hm, hk, hb, hr, G⟩ := C.ex
  refine ⟨fun pins s σ H Q I ⟨ρ, S, μ, d, S', g, r, q, kk⟩ => ?_⟩
  simp only [ev, evs] at q
  have hq : spI X.K F ar fi [] H Q := ⟨S, μ, [], d, S', g, rfl, C.ar_ _ _ _ q, q, kk⟩
  have hl : ([] ++ [] : List Value).length = ps.length := G.len _ _ _ hq
  have hbb := hb s [] I.kIn hl
  rw [List.append_nil] at hbb
  exact wpAny_Call_Name_kw (ld_glob I hg hm (PySem.W.callWith_K0 I.kIn hk (wpAny_call (run_I G hr ok.gd I hbb .nil hq))) hdb)
theorem evs_len : ∀ {es : Es} {n : Nat} {ρ : Env} {S S1 : Sto} {xs : List D}, plainEs es = some n → evs F es ρ S = some (xs, S1) → xs.length = n
  | .nil, n, ρ, S, S1, xs, h, q => by
    simp only [evs] at q
    cases q
    cases h
    rfl
  | .cons e es, n, ρ, S, S1, xs, h, q => by
    simp only [plainEs] at h
    obtain ⟨m, hm, rfl⟩ := Option.map_eq_some_iff.mp h
    simp only [evs] at q
    split at q
    · cases q
    · split at q
      · cases q
      · rename_i ys S2 eb
        cases q
        rw [List.length_cons, evs_len hm eb]
  | .star _ _, _, _, _, _, _, h, _ => by cases h
theorem reps_prm {K : PySem.W.Frag} {S : Sto} {μ : Mu} {H : Hp} {xs : List D} {vs : List V} (h : Reps K S μ H xs vs) : ∀ pm : List Nat, Reps K S μ H (prm pm xs) (prm pm vs)
  | [] => rfl
  | i :: pm => by
    have ih := reps_prm h pm
    unfold prm at ih ⊢
    rw [List.filterMap_cons, List.filterMap_cons]
    cases e : xs[i]? with
    | none =>
      have e2 : vs[i]? = none := List.getElem?_eq_none (by rw [← h.length]; exact List.getElem?_eq_none_iff.mp e)
      rw [e2]
      exact ih
    | some d =>
      obtain ⟨v, hv, r⟩ := h.get e
      rw [hv]
      exact ⟨v, _, rfl, r, ih⟩
theorem vals_prm {vs : List V} {us : List Value} (h : Vals vs us) : ∀ pm : List Nat, Vals (prm pm vs) (prm pm us)
  | [] => .nil
  | i :: pm => by
    have ih := vals_prm h pm
    unfold prm at ih ⊢
    rw [List.filterMap_cons, List.filterMap_cons]
    cases e : vs[i]? with
    | none =>
      rw [h.none_of e]
      exact ih
    | some d =>
      obtain ⟨v, hv, r⟩ := h.get e
      rw [hv]
      exact .cons r ih
structure CallKOk (X : Cx) (F : CF) (fi ar : Nat) (x : Str) (n : Nat) (ks : List Str) (pm : List Nat) : Prop where
  ar_ : ∀ ds S r, F fi ds S = some r → ds.length = ar
  ex : ∃ (f : Addr) (fd : FuncData) (ps : List Str) (k : Nat), X.mg x = some (.ref f) ∧ PySem.W.keepIn X.K (.ref f) = true ∧ (∀ (s : Shared) (us ws : List Value), us.length = n → ws.length = ks.length → BindsTo s fd ⟨us, ks.zip ws⟩ (ps.zip (prm pm (us ++ ws)))) ∧ Room k X.A ∧ FnI X.prog X.w X.K X.mg X.base k f fd ps (spI X.K F ar fi)
/-- the keywords' values -/
theorem k_nil : PK X [] (tA X.K F .nil) := ⟨fun pos pins s σ H Q I ⟨ρ, S, μ, d, S', g, r, q, k⟩ => by
  simp only [evs] at q
  cases q
  exact pk_nil.run pos pins s σ H Q I (k [] μ H g (Evo.refl _ _ _) rfl)⟩
theorem k_cons {nm : Option Str} {kpos : Pos} {kws : List Keyword} (ha : PE X a (tE X.K F ia)) (hr : PK X kws (tA X.K F ies)) : PK X (⟨nm, a, kpos⟩ :: kws) (tA X.K F (.cons ia ies)) := ⟨fun pos pins s σ H Q I ⟨ρ, S, μ, d, S', g, r, q, k⟩ => by
  simp only [evs] at q
  split at q
  · cases q
  · rename_i x S1 ea
    split at q
    · cases q
    · rename_i xs S2 eb
      cases q
      exact (pk_cons ha hr).run pos pins s σ H Q I ⟨ρ, S, μ, x, S1, g, r, ea, fun v μ1 H1 g1 e1 rv => ⟨ρ, S1, μ1, xs, _, g1, r.mono g e1.w, eb, fun vs μ2 H2 g2 e2 rw => k _ _ _ g2 (e1.trans e2) ⟨v, vs, rfl, rv.mono g1 e2.w, rw⟩⟩⟩⟩
/-- f(k = v, ..) -/
theorem i_callK0 {fi ar : Nat} {x : Str} {p : Pos} {kws : List Keyword} {ks : List Str} {pm : List Nat} {kes : Es} (ok : Cok X) (hg : Gl X x) (C : CallKOk X F fi ar x 0 ks pm) (hkw : PK X kws (tA X.K F kes)) (hl : plainEs kes = some ks.length)
    (hall : (backToKw pos (keywordEach kws X.env)).all (·.1.isSome) = true := by rfl) (hks : (backToKw pos (keywordEach kws X.env)).filterMap (·.1) = ks := by rfl) (hdb : (x == ("__debug__" : Str)) = false := by decide)
    (hpl : ((backTo pos (starEach [] X.env)).any (·.1) || (backToKw pos (keywordEach kws X.env)).any (·.1.isNone)) = false := by rfl) : PE X (.Call (.Name x p) [] kws pos) (tE X.K F (.callK fi .nil kes pm)) := by
  obtain ⟨f, fd, ps, k, hm, hk, hb, hr, G⟩ := C.ex
  refine ⟨fun pins s σ H Q I ⟨ρ, S, μ, d, S', g, r, q, kk⟩ => ?_⟩
  simp only [ev, evs] at q
  split at q
  · cases q
  · rename_i ys S2 eb
    refine wpAny_Call_Name_kw (ld_glob I hg hm ?_ hdb)
    refine PySem.W.callWith_KW0 (h₀ := X.base) I.ok.mod.kin hk hall ?_ hpl
    refine thn (hkw.run pos pins s σ H (fun vs H1 => vs.length = ks.length ∧ spI X.K F ar fi (prm pm ([] ++ vs)) H1 Q) I (tA_run g r eb fun vs μ1 H1 g1 e1 rv => ?_)) ?_
    · exact ⟨by rw [← rv.length, evs_len hl eb], S2, μ1, _, d, S', g1, reps_prm (by simpa using rv) pm, C.ar_ _ _ _ q, q, fun v μ2 H2 g2 e2 rd => kk v μ2 H2 g2 (e1.trans e2) rd⟩
    · rintro us s1 ⟨vs, H1, I1, rr, hl2, hq⟩
      refine ⟨I1.kIn, ?_⟩
      rw [hks]
      refine wpAny_call (run_I G hr ok.gd I1 (hb s1 [] us rfl (by rw [← rr.length, hl2])) (vals_prm (by simpa using rr) pm) hq)
/-- f(e, .., k = v, ..) -/
theorem i_callK {fi ar n : Nat} {x : Str} {p : Pos} {kws : List Keyword} {ks : List Str} {pm : List Nat} {kes : Es} (ok : Cok X) (hg : Gl X x) (C : CallKOk X F fi ar x n ks pm) (ha : PA X (e :: es) (tA X.K F ies)) (hn : plainEs ies = some n) (hkw : PK X kws (tA X.K F kes)) (hl : plainEs kes = some ks.length)
    (hall : (backToKw pos (keywordEach kws X.env)).all (·.1.isSome) = true := by rfl) (hks : (backToKw pos (keywordEach kws X.env)).filterMap (·.1) = ks := by rfl) (hdb : (x == ("__debug__" : Str)) = false := by decide) (he : starEach (e :: es) X.env = (false, eval e X.env) :: starEach es X.env := by rfl)
    (hpl : ((backTo pos (starEach (e :: es) X.env)).any (·.1) || (backToKw pos (keywordEach kws X.env)).any (·.1.isNone)) = false := by rfl) : PE X (.Call (.Name x p) (e :: es) kws pos) (tE X.K F (.callK fi ies kes pm)) := by
  obtain ⟨f, fd, ps, k, hm, hk, hb, hr, G⟩ := C.ex
  refine ⟨fun pins s σ H Q I ⟨ρ, S, μ, d, S', g, r, q, kk⟩ => ?_⟩
  simp only [ev] at q
  split at q
  · cases q
  · rename_i xs S1 ea
    split at q
    · cases q
    · rename_i ys S2 eb
      refine wpAny_Call_Name_kw (ld_glob I hg hm ?_ hdb)
      refine PySem.W.callWith_KW (h₀ := X.base) I.ok.mod.kin hk hall (thn (ha.run pos pins s σ H (fun vs H1 => ∃ μ1, Good X.K S1 μ1 H1 ∧ Evo S μ H S1 μ1 H1 ∧ Reps X.K S1 μ1 H1 xs vs) I (tA_run g r ea fun vs μ1 H1 g1 e1 rv => ⟨μ1, g1, e1, rv⟩)) ?_) hpl he
      rintro us s1 ⟨vs, H1, I1, rr, μ1, g1, e1, rv⟩
      refine thn (hkw.run pos pins s1 σ H1 (fun ws H2 => ws.length = ks.length ∧ spI X.K F ar fi (prm pm (vs ++ ws)) H2 Q) I1 (tA_run g1 (r.mono g e1.w) eb fun ws μ2 H2 g2 e2 rw => ?_)) ?_
      · exact ⟨by rw [← rw.length, evs_len hl eb], S2, μ2, _, d, S', g2, reps_prm ((rv.mono g1 e2.w).append rw) pm, C.ar_ _ _ _ q, q, fun v μ3 H3 g3 e3 rd => kk v μ3 H3 g3 ((e1.trans e2).trans e3) rd⟩
      · rintro zs s2 ⟨ws, H2, I2, rz, hl2, hq⟩
        refine ⟨I2.kIn, ?_⟩
        rw [hks]
        refine wpAny_call (run_I G hr ok.gd I2 (hb s2 us zs (by rw [← rr.length, ← rv.length, evs_len hn ea]) (by rw [← rz.length, hl2])) (vals_prm (rr.append rz) pm) hq)

theorem biD_read {K : PySem.W.Frag} {b : BI} {σ : L2.St} {H : Hp} {Q : VK} : tE K F (.bi b ies) σ H Q → tCB (rBi K b) (tA K F ies) σ H Q := fun ⟨ρ, S, μ, d, S', g, r, q, k⟩ => by
  simp only [ev] at q
  split at q
  · rename_i xs S1 ea
    split at q
    · rename_i ys sy
      split at q
      · rename_i z ez
        cases q
        refine ⟨ρ, S, μ, xs, _, g, r, ea, fun vs μ1 H1 g1 e1 rv => ⟨_, μ1, ys, _, g1, seeAll_ok g1 rv sy, ez, fun v' H' g2 e2 rz => k v' μ1 H' g2 (e1.trans e2) rz⟩⟩
      · cases q
    · cases q
  · cases q
/-- f(e, ..), f a built-in function -/
theorem i_biB {b : BI} {id : String} {x : Str} {p : Pos} (ok : Cok X) (hid : biV b = .builtin id) (hg : Gl X x) (hm : X.mg x = none) (hv : bootBuiltins x = some (.builtin id)) (ha : PA X (e :: es) (tA X.K F ies)) (hn : x ≠ "__name__" := by decide) (hdb : (x == ("__debug__" : Str)) = false := by decide)
    (he : starEach (e :: es) X.env = (false, eval e X.env) :: starEach es X.env := by rfl) (hpl : (backTo pos (starEach es X.env)).any (·.1) = false := by rfl) : PE X (.Call (.Name x p) (e :: es) [] pos) (tE X.K F (.bi b ies)) :=
  PE.weak (pe_callB (r := rBi X.K b) (by rw [← hid]; exact call_bi ok.calm ok.gd ok.un b) hg hm hv ha hn hdb he hpl) fun σ H Q h => biD_read h
/-- T(e, ..), T a built-in type -/
theorem i_biT {b : BI} {T : String} {x : Str} {p : Pos} (ok : Cok X) (hid : biV b = .type T) (hg : Gl X x) (hm : X.mg x = none) (hv : bootBuiltins x = some (.type T)) (ha : PA X (e :: es) (tA X.K F ies)) (hn : x ≠ "__name__" := by decide) (hdb : (x == ("__debug__" : Str)) = false := by decide)
    (he : starEach (e :: es) X.env = (false, eval e X.env) :: starEach es X.env := by rfl) (hpl : (backTo pos (starEach es X.env)).any (·.1) = false := by rfl) : PE X (.Call (.Name x p) (e :: es) [] pos) (tE X.K F (.bi b ies)) :=
  PE.weak (pe_callTy (r := rBi X.K b) (by rw [← hid]; exact call_bi ok.calm ok.gd ok.un b) hg hm hv ha hn hdb he hpl) fun σ H Q h => biD_read h

/-- list(e), a place of its own -/
theorem i_mk {x : Str} {p : Pos} (ok : Cok X) (hg : Gl X x) (hm : X.mg x = none) (hv : bootBuiltins x = some (.type "list")) (ha : PA X (e :: es) (tA X.K F ies)) (hn : x ≠ "__name__" := by decide) (hdb : (x == ("__debug__" : Str)) = false := by decide)
    (he : starEach (e :: es) X.env = (false, eval e X.env) :: starEach es X.env := by rfl) (hpl : (backTo pos (starEach es X.env)).any (·.1) = false := by rfl) : PE X (.Call (.Name x p) (e :: es) [] pos) (tE X.K F (.mk ies)) :=
  PE.weak (pe_callTy (r := rMk X.K) (call_mk ok.calm) hg hm hv ha hn hdb he hpl) fun σ H Q ⟨ρ, S, μ, d, S', g, r, q, k⟩ => by
    simp only [ev] at q
    split at q
    · rename_i xs S1 ea
      split at q
      · rename_i ys sy
        split at q
        · rename_i zs ez
          exact ⟨ρ, S, μ, xs, _, g, r, ea, fun vs μ1 H1 g1 e1 rv => ⟨_, μ1, ys, zs, _, _, g1, seeAll_ok g1 rv sy, ez, q, fun v' μ' H' g2 e2 rz => k v' μ' H' g2 (e1.trans e2) rz⟩⟩
        · cases q
      · cases q
    · cases q

theorem i_fmt {a : Expr} {ia : E} (ha : PE X a (tE X.K F ia)) : PE X (.FormattedValue a (-1) none pos) (tE X.K F (.fmt ia)) :=
  PE.weak (pe_fmt ha) fun σ H Q ⟨ρ, S, μ, d, S', g, r, q, k⟩ => by
    simp only [ev] at q
    split at q
    · rename_i y S1 ea
      split at q
      · rename_i hz
        cases q
        exact ⟨ρ, S, μ, _, _, g, r, ea, fun v μ1 H1 g1 e1 rv => .inl ⟨y, rv, small_line hz, k _ _ _ g1 e1 rfl⟩⟩
      · cases q
    · rename_i i S1 ea
      split at q
      · rename_i hz
        rw [decide_eq_true_eq] at hz
        cases q
        exact ⟨ρ, S, μ, _, _, g, r, ea, fun v μ1 H1 g1 e1 rv => .inr ⟨i, rv, by have := natAbs_log hz (by decide); omega, k _ _ _ g1 e1 rfl⟩⟩
      · cases q
    · cases q
def tsOf (K : PySem.W.Frag) (F : CF) : Es → List TE
  | .nil => []
  | .cons e es => tE K F e :: tsOf K F es
  | .star _ _ => []
inductive PJI (X : Cx) (F : CF) : List Expr → Es → Prop where
  | nil : PJI X F [] .nil
  | cons {e : Expr} {es : List Expr} {ie : E} {ies : Es} (h : PE X e (tE X.K F ie)) (r : PJI X F es ies) : PJI X F (e :: es) (.cons ie ies)
theorem pji_pj {es : List Expr} {ies : Es} (h : PJI X F es ies) : PJ X es (tsOf X.K F ies) := by
  induction h with
  | nil => exact .nil
  | cons h _ ih => exact .cons h ih
theorem js_run {K : PySem.W.Frag} {σ : L2.St} {Q : Str → Hp → Prop} {es : List Expr} {ies : Es} (h : PJI X F es ies) : ∀ (acc : Str) (ρ : Env) (S S1 : Sto) (μ : Mu) (H : Hp) (xs : List D) (ss : List Str), Good K S μ H → RelS K S μ H ρ σ → evs F ies ρ S = some (xs, S1) → strs? xs = some ss → acc.length + (ss.map (·.length)).sum ≤ sizeLine →
    (∀ μ' H', Good K S1 μ' H' → Evo S μ H S1 μ' H' → Q (catS acc ss) H') → tJs (tsOf K F ies) acc σ H Q := by
  induction h with
  | nil =>
    intro acc ρ S S1 μ H xs ss g r q qs hz k
    simp only [evs] at q
    cases q
    cases qs
    exact k μ H g (Evo.refl _ _ _)
  | @cons e es ie ies hp r0 ih =>
    intro acc ρ S S1 μ H xs ss g r q qs hz k
    simp only [evs] at q
    split at q
    · cases q
    · rename_i x S2 ea
      split at q
      · cases q
      · rename_i ys S3 eb
        cases q
        cases x with
        | str y =>
          simp only [strs?] at qs
          obtain ⟨rs, e1, rfl⟩ := Option.map_eq_some_iff.mp qs
          simp only [List.map_cons, List.sum_cons] at hz
          refine ⟨ρ, S, μ, _, _, g, r, ea, fun v μ1 H1 g1 ev1 rv => ⟨y, rv, by rw [strLen_append]; omega, ih (acc ++ y) ρ S2 S1 μ1 H1 ys rs g1 (r.mono g ev1.w) eb e1 (by rw [strLen_append]; omega) fun μ' H' g' e' => k μ' H' g' (ev1.trans e')⟩⟩
        | _ => simp [strs?] at qs
theorem i_js {v1 v2 : Expr} {rest : List Expr} {ies : Es} (h : PJI X F (v1 :: v2 :: rest) ies) : PE X (.JoinedStr (v1 :: v2 :: rest) pos) (tE X.K F (.js ies)) :=
  PE.weak (pe_joined (pji_pj h)) fun σ H Q ⟨ρ, S, μ, d, S', g, r, q, k⟩ => by
    simp only [ev] at q
    split at q
    · rename_i xs S1 ea
      split at q
      · rename_i ss es
        split at q
        · rename_i hz
          cases q
          exact js_run h _ ρ S S' μ H xs ss g r ea es (by have := small_line hz; show 0 + _ ≤ _; omega) fun μ' H' g' e' => k _ _ _ g' e' rfl
        · cases q
      · cases q
    · cases q

def rIsO (K : PySem.W.Frag) (tys : List Ty) (one : Bool) : List V → Hp → VK → Prop := fun vs H Q => ∃ S μ x v, Good K S μ H ∧ Seen K S μ H x v ∧ (∀ i, x ≠ .ref i) ∧
  ((one = true ∧ ∃ t, tys = [t] ∧ vs = [v, .ty (tyS t)]) ∨ (one = false ∧ ∃ p, vs = [v, .ref p] ∧ H p = some (.tup (tys.map fun t => V.ty (tyS t))))) ∧ Q (.bl (tys.any (isTy x))) H
theorem pairedC : ∀ ts : List Ty, Paired ClsV (ts.map fun t => V.ty (tyS t)) (ts.map fun t => Value.type (tyS t))
  | [] => .nil
  | t :: ts => .cons (.ty _) (pairedC ts)
theorem call_isO {tys : List Ty} {one : Bool} : CallR X (.builtin "isinstance") (rIsO X.K tys one) := by
  intro pins s σ H vs us Q I r h
  obtain ⟨S, μ, x, v, g, hx, nr, h, q⟩ := h
  rcases h with ⟨_, t, rfl, rfl⟩ | ⟨_, p, rfl, hp⟩
  · refine call_isi pins s σ H _ us Q I r ⟨v, .ty (tyS t), _, _, isTy x t, rfl, .ty _, ty_of nr hx, kit_isTy t, ?_⟩
    simpa using q
  · exact call_isiT pins s σ H _ us Q I r ⟨v, p, _, _, _, _, rfl, hp, pairedC tys, ty_of nr hx, kit_any tys, q⟩
/-- the classes' names -/
structure TyOk (X : Cx) (e : Expr) (t : Ty) : Prop where
  pe : PE X e (tC (.ty (tyS t)))
theorem ty_ok {x : Str} {t : Ty} {p : Pos} (hg : Gl X x) (hm : X.mg x = none) (hv : bootBuiltins x = some (.type (tyS t))) (hn : x ≠ "__name__" := by decide) (hdb : (x == ("__debug__" : Str)) = false := by decide) : TyOk X (.Name x p) t := ⟨pe_bltn hg hm hv rfl hn hdb⟩
theorem is_read {K : PySem.W.Frag} {tys : List Ty} {σ : L2.St} {H : Hp} {Q : VK} (h : tE K F (.isi ia tys) σ H Q) : tE K F ia σ H fun v H1 => ∃ S μ x, Good K S μ H1 ∧ Seen K S μ H1 x v ∧ (∀ i, x ≠ .ref i) ∧ ∀ H2, Good K S μ H2 → Evo S μ H1 S μ H2 → Q (.bl (tys.any (isTy x))) H2 := by
  obtain ⟨ρ, S, μ, d, S', g, r, q, k⟩ := h
  simp only [ev] at q
  split at q
  · rename_i x S1 ea
    split at q
    · rename_i x' sx
      cases q
      exact ⟨ρ, S, μ, x, _, g, r, ea, fun v μ1 H1 g1 e1 rv => ⟨_, μ1, x', g1, see_ok g1 rv sx, see_noref sx, fun H2 g2 e2 => k _ _ _ g2 (e1.trans e2) rfl⟩⟩
    · cases q
  · cases q
theorem seen_mono {K : PySem.W.Frag} {S : Sto} {μ : Mu} {H H' : Hp} (g : Good K S μ H) (e : Evo S μ H S μ H') (hw : ∀ (i : Nat) (xs : List D) (a : Addr), S[i]? = some (some xs) → μ.ps[i]? = some a → H' a = H a) {x : D} {v : V} (h : Seen K S μ H x v) : Seen K S μ H' x v := by
  cases x with
  | lst xs =>
    obtain ⟨a, vs, e1, q, r⟩ := h
    refine ⟨a, vs, e1, ?_, r.mono g e.w⟩
    rcases q with (q | ⟨o, q⟩) | q
    · by_cases l : Live S μ a
      · rcases l with ⟨i, ys, e2, m⟩ | l
        · exact .inl (.inl (by rw [hw i ys a e2 m]; exact q))
        · exact .inl (.inl (e.hold a _ l q))
      · exact .inl (.inl (e.w.old a _ q l).1)
    · refine .inl (.inr ⟨o, (e.w.old a _ q (g.notLive fun ws z => ?_)).1⟩)
      rw [q] at z; cases z
    · exact .inr q
  | non => exact Rep.mono g e.w h
  | bl _ => exact Rep.mono g e.w h
  | int _ => exact Rep.mono g e.w h
  | str _ => exact Rep.mono g e.w h
  | tup _ => exact Rep.mono g e.w h
  | ref _ => exact Rep.mono g e.w h
theorem i_is1 {t : Ty} {p : Pos} {tn : Expr} (hg : Gl X "isinstance") (hm : X.mg "isinstance" = none) (ha : PE X a (tE X.K F ia)) (ht : TyOk X tn t)
    (he : starEach [a, tn] X.env = (false, eval a X.env) :: starEach [tn] X.env := by rfl) (h2 : starEach [tn] X.env = (false, eval tn X.env) :: starEach [] X.env := by rfl) (hpl : (backTo pos (starEach [tn] X.env)).any (·.1) = false := by rfl) :
    PE X (.Call (.Name "isinstance" p) [a, tn] [] pos) (tE X.K F (.isi ia [t])) :=
  PE.weak (pe_callB (r := rIsO X.K [t] true) call_isO hg hm PyProof.Rows.boot_isinstance (pa_cons ha (pa_cons ht.pe pa_nil h2) he) (by decide) (by decide) he hpl) fun σ H Q h => by
    obtain ⟨ρ, S, μ, d, S', g, r, q, k⟩ := is_read h
    exact ⟨ρ, S, μ, d, S', g, r, q, fun v μ' H' g' e' rv => by
      obtain ⟨S2, μ2, x, g2, hx, nr, kk⟩ := k v μ' H' g' e' rv
      exact ⟨S2, μ2, x, v, g2, hx, nr, .inl ⟨rfl, t, rfl, rfl⟩, kk H' g2 (Evo.refl _ _ _)⟩⟩
/-- isinstance(x, (T1, T2, ..)) -/
structure TysOk (X : Cx) (es : List Expr) (ts : List Ty) : Prop where
  pa : PA X es (fun _ H Q => Q (ts.map fun t => V.ty (tyS t)) H)
theorem tys_nil : TysOk X [] [] := ⟨pa_nil⟩
theorem tys_cons {t : Ty} {ts : List Ty} (h : TyOk X a t) (hr : TysOk X es ts) (hs : starEach (a :: es) X.env = (false, eval a X.env) :: starEach es X.env := by rfl) : TysOk X (a :: es) (t :: ts) := ⟨pa_cons h.pe hr.pa hs⟩
theorem i_isT {ts : List Ty} {p pt : Pos} {kt : Nat} {tes : List Expr} (hz : ts.length ≤ 20) (hg : Gl X "isinstance") (hm : X.mg "isinstance" = none) (ha : PE X a (tE X.K F ia)) (ht : TysOk X tes ts)
    (he : starEach [a, .Tuple tes kt pt] X.env = (false, eval a X.env) :: starEach [.Tuple tes kt pt] X.env := by rfl) (h2 : starEach [.Tuple tes kt pt] X.env = (false, eval (.Tuple tes kt pt) X.env) :: starEach [] X.env := by rfl) (hpl : (backTo pos (starEach [.Tuple tes kt pt] X.env)).any (·.1) = false := by rfl) :
    PE X (.Call (.Name "isinstance" p) [a, .Tuple tes kt pt] [] pos) (tE X.K F (.isi ia ts)) :=
  PE.weak (pe_callB (r := rIsO X.K ts false) call_isO hg hm PyProof.Rows.boot_isinstance (pa_cons ha (pa_cons (pe_tup ht.pa) pa_nil h2) he) (by decide) (by decide) he hpl) fun σ H Q h => by
    obtain ⟨ρ, S, μ, d, S', g, r, q, k⟩ := is_read h
    refine ⟨ρ, S, μ, d, S', g, r, q, fun v μ' H' g' e' rv => ?_⟩
    obtain ⟨S2, μ2, x, g2, hx, nr, kk⟩ := k v μ' H' g' e' rv
    refine ⟨by rw [List.length_map, sizeLine_eq]; omega, fun pp hp => ?_⟩
    have ev := evo_new (o := .tup (ts.map fun t => V.ty (tyS t))) g2 hp
    refine ⟨S2, μ2, x, v, good_new g2 hp, seen_mono g2 ev (fun i xs b e1 m => upd_ne fun z => ?_) hx, nr, .inr ⟨rfl, pp, rfl, upd_same⟩, kk _ (good_new g2 hp) ev⟩
    subst z
    exact g2.none_notLive hp (.inl ⟨i, xs, e1, m⟩)

theorem tA_nil {K : PySem.W.Frag} {ρ : Env} {S : Sto} : evs F .nil ρ S = some ([], S) := by simp only [evs]
theorem me_read {K : PySem.W.Frag} {m : ME} {T : String} {σ : L2.St} {H : Hp} {Q : VK} (hT : T = if m = .join then "str" else "list") : tE K F (.meth m ia ies) σ H Q →
    tE K F ia σ H fun x H1 => tyV K T x H1 ∧ tA K F ies σ H1 fun vs H2 => rMe K m x vs H2 Q := fun ⟨ρ, S, μ, d, S', g, r, q, k⟩ => by
  simp only [ev] at q
  split at q
  · cases q
  · rename_i o S1 ea
    split at q
    case isFalse => cases q
    rename_i hsee
    split at q
    · cases q
    · rename_i xs S2 eb
      refine ⟨ρ, S, μ, o, S1, g, r, ea, fun v μ1 H1 g1 e1 rv => ⟨?_, ρ, S1, μ1, xs, S2, g1, r.mono g e1.w, eb, fun vs μ2 H2 g2 e2 rvs => ⟨S2, μ2, o, xs, S', d, g2, rv.mono g1 e2.w, rvs, q, fun v' μ' H' g3 e3 rz => k v' μ' H' g3 ((e1.trans e2).trans e3) rz⟩⟩⟩
      by_cases hj : m = .join
      · subst hj
        rw [if_pos rfl] at hT
        subst hT
        have hs : ∃ x, o = .str x := by
          unfold meD at q
          split at q <;> first | (cases q; done) | skip
          all_goals first | exact ⟨_, rfl⟩ | (rename_i h; cases h)
        obtain ⟨x, rfl⟩ := hs
        cases (show v = V.str x from rv)
        rfl
      · rw [if_neg hj] at hT
        subst hT
        cases o with
        | ref i =>
          obtain ⟨a, rfl, ma⟩ := rv
          cases hS : S1[i]? with
          | none => exact absurd ma (by rw [List.getElem?_eq_none (by rw [g1.len]; exact List.getElem?_eq_none_iff.mp hS)]; intro z; cases z)
          | some oo =>
            cases oo with
            | none => simp [see, hS] at hsee
            | some ys =>
              obtain ⟨b, ws, mb, hb, _⟩ := g1.at_ i ys hS
              rw [ma] at mb; cases mb
              exact .inl ⟨rfl, ws, SqL.of hb⟩
        | lst ys =>
          obtain ⟨a, vs, rfl, qa, _⟩ := rv.lsR
          exact .inl ⟨rfl, vs, qa.l⟩
        | _ => unfold meD at q; cases m <;> first | (exact absurd rfl hj) | (simp at q)
/-- what a method's name stands for -/
structure MeF (m : ME) (T : String) (name : Str) (id : String) : Prop where
  pa : PlainAttrs T
  slot : Slot T name id
  ty : typeOf (.builtin id) = pure (.type "method_descriptor")
  id_ : meId m = id
  t : T = if m = .join then "str" else "list"
theorem mf_append : MeF .append "list" "append" "list.append" := ⟨PySem.F.plainAttrs_list, PySem.F.slot_list_append, PySem.F.type_list_append, rfl, rfl⟩
theorem mf_extend : MeF .extend "list" "extend" "list.extend" := ⟨PySem.F.plainAttrs_list, PySem.F.slot_list_extend, PySem.F.type_list_extend, rfl, rfl⟩
theorem mf_pop : MeF .pop "list" "pop" "list.pop" := ⟨PySem.F.plainAttrs_list, PySem.F.slot_list_pop, PySem.F.type_list_pop, rfl, rfl⟩
theorem mf_popAt : MeF .popAt "list" "pop" "list.pop" := ⟨PySem.F.plainAttrs_list, PySem.F.slot_list_pop, PySem.F.type_list_pop, rfl, rfl⟩
theorem mf_index : MeF .index "list" "index" "list.index" := ⟨PySem.F.plainAttrs_list, PySem.F.slot_list_index, PySem.F.type_list_index, rfl, rfl⟩
theorem i_me0 {o : Expr} {m : ME} {T : String} {name : Str} {id : String} {apos : Pos} (M : MeF m T name id) (ho : PE X o (tE X.K F ia)) (hbase : attributeBase o name X.env (eval o X.env) = eval o X.env := by rfl) (hline : (apos.endLine == pos.line) = true := by rfl) :
    PE X (.Call (.Attribute o name apos) [] [] pos) (tE X.K F (.meth m ia .nil)) :=
  PE.weak (pe_bm0 (r := rMe X.K m) M.pa M.slot M.ty (by rw [← M.id_]; exact me_run m) ho hbase hline) fun σ H Q h => by
    obtain ⟨ρ, S, μ, d, S', g, r, q, k⟩ := me_read M.t h
    exact ⟨ρ, S, μ, d, S', g, r, q, fun v μ' H' g' e' rv => by
      obtain ⟨h1, ρ2, S2, μ2, xs, S3, g2, r2, q2, k2⟩ := k v μ' H' g' e' rv
      simp only [evs] at q2
      cases q2
      exact ⟨h1, k2 [] μ2 H' g2 (Evo.refl _ _ _) rfl⟩⟩
theorem i_me {o : Expr} {m : ME} {T : String} {name : Str} {id : String} {apos : Pos} (M : MeF m T name id) (ho : PE X o (tE X.K F ia)) (ha : PA X (e :: es) (tA X.K F ies)) (hbase : attributeBase o name X.env (eval o X.env) = eval o X.env := by rfl)
    (hfew : ((backTo pos (starEach (e :: es) X.env)).all (fun x => !x.1) && (backToKw pos (keywordEach [] X.env)).all (fun x => x.1.isSome)
      && decide ((e :: es).length + ([] : List Keyword).length + (if ([] : List Keyword).isEmpty then 0 else 1) < 30)) = true := by rfl)
    (hline : (apos.endLine == pos.line) = true := by rfl) (hs : starEach (e :: es) X.env = (false, eval e X.env) :: starEach es X.env := by rfl) (hplain : (backTo pos (starEach es X.env)).any (·.1) = false := by rfl) :
    PE X (.Call (.Attribute o name apos) (e :: es) [] pos) (tE X.K F (.meth m ia ies)) :=
  PE.weak (pe_bm (r := rMe X.K m) M.pa M.slot M.ty (by rw [← M.id_]; exact me_run m) ho ha hbase hfew hline hs hplain) fun σ H Q h => me_read M.t h
end

section
variable {X : Cx} {F : CF} {a b c e : Expr} {es : List Expr} {ia ib ic ie : E} {ies : Es} {pos : Pos}
def slotsT : Tg → List Nat
  | .n i => [i]
  | .t is => is
/-- a target's reading -/
def gT (K : PySem.W.Frag) (t : Tg) : TG := fun v σ H Q => ∃ (d : D) (ρ ρ' : Env) (S : Sto) (μ : Mu), Good K S μ H ∧ RelS K S μ H ρ σ ∧ Rep K S μ H d v ∧ setT t d ρ = some ρ' ∧
  ∀ σ', RelS K S μ H ρ' σ' → σ'.length = σ.length → (∀ j, j ∉ slotsT t → σ'[j]? = σ[j]?) → Q σ' H
theorem PG.weak {tg : Expr} {t t' : TG} (h : PG X tg t) (k : ∀ v σ H Q, t' v σ H Q → t v σ H Q) : PG X tg t' := ⟨fun pins s σ H v u Q I r q => h.run pins s σ H v u Q I r (k v σ H Q q)⟩
theorem g_n {i : Nat} {x : Str} (ok : Cok X) (hi : X.N[i]? = some x) (hx : Loc X.env.scope x) (hf : X.fn x = true ∨ X.env.scope.names.lookup x = some .local := by first | exact .inl rfl | exact .inr rfl | assumption) : PG X (.Name x pos) (gT X.K (.n i)) :=
  PG.weak (pg_name ok.nd hi hx hf) fun v σ H Q ⟨d, ρ, ρ', S, μ, g, r, rv, st, k⟩ => by
    cases st
    exact k _ (r.set i rv) (by rw [List.length_set]) fun j hj => List.getElem?_set_ne (by intro z; exact hj (by simp [slotsT, z]))
/-- several names -/
inductive Names (X : Cx) : List Expr → List Nat → Prop where
  | nil : Names X [] []
  | cons {i : Nat} {x : Str} {p : Pos} {es : List Expr} {is : List Nat} (hi : X.N[i]? = some x) (hx : Loc X.env.scope x) (hf : X.fn x = true ∨ X.env.scope.names.lookup x = some .local) (t : Names X es is) : Names X (.Name x p :: es) (i :: is)
def gNames : List Nat → TGs
  | [] => gNil
  | i :: is => gCons (gName i) (gNames is)
theorem pgs_names (nd : X.N.Nodup) : ∀ {es : List Expr} {is : List Nat}, Names X es is → PGs X es (gNames is)
  | _, _, .nil => pgs_nil
  | _, _, .cons hi hx hf t => pgs_cons (pg_name nd hi hx hf) (pgs_names nd t)
theorem names_read {K : PySem.W.Frag} {S : Sto} {μ : Mu} {H : Hp} {Q : L2.St → Hp → Prop} : ∀ (is : List Nat) (ds : List D) (vs : List V) (ρ : Env) (σ : L2.St), ds.length = is.length → Reps K S μ H ds vs → RelS K S μ H ρ σ →
    (∀ σ', RelS K S μ H ((is.zip ds).foldl (fun r p => r.set p.1 (some p.2)) ρ) σ' → σ'.length = σ.length → (∀ j, j ∉ is → σ'[j]? = σ[j]?) → Q σ' H) → gNames is vs σ H Q
  | [], [], vs, ρ, σ, _, rv, r, k => by
    cases (show vs = [] from rv)
    exact ⟨rfl, k σ r rfl fun _ _ => rfl⟩
  | [], _ :: _, _, _, _, h, _, _, _ => by cases h
  | _ :: _, [], _, _, _, h, _, _, _ => by cases h
  | i :: is, d :: ds, vs, ρ, σ, h, rv, r, k => by
    obtain ⟨v, ws, rfl, h1, h2⟩ := rv
    refine ⟨v, ws, rfl, names_read is ds ws (ρ.set i (some d)) (σ.set i (some v)) (by simpa using h) h2 (r.set i h1) fun σ' r' l' n' => k σ' r' (by rw [l', List.length_set]) fun j hj => ?_⟩
    rw [n' j fun z => hj (List.mem_cons_of_mem _ z), List.getElem?_set_ne]
    intro z
    exact hj (by rw [z]; exact List.mem_cons_self)
theorem names_each : ∀ {es : List Expr} {is : List Nat}, Names X es is → (assignEach es X.env).length = is.length ∧ (assignEach es X.env).findIdx? (·.1) = none
  | _, _, .nil => ⟨rfl, rfl⟩
  | _, _, .cons (x := x) (p := p) (es := es) hi hx hf t => by
    obtain ⟨h1, h2⟩ := names_each t
    have e : assignEach (.Name x p :: es) X.env = (false, assign (.Name x p) X.env) :: assignEach es X.env := rfl
    rw [e]
    refine ⟨by rw [List.length_cons, List.length_cons, h1], ?_⟩
    rw [List.findIdx?_cons, h2]
    rfl
theorem g_t {is : List Nat} {k : Nat} (ok : Cok X) (N : Names X es is) : PG X (.Tuple es k pos) (gT X.K (.t is)) :=
  PG.weak (pg_tup (n := is.length) ok.calm (pgs_names ok.nd N) (names_each N).1 (names_each N).2) fun v σ H Q ⟨d, ρ, ρ', S, μ, g, r, rv, st, kk⟩ => by
    cases d with
    | tup ds =>
      simp only [setT] at st
      split at st
      · rename_i hl
        cases st
        obtain ⟨a, vs, rfl, q, rr⟩ := rv
        exact ⟨a, vs, rfl, q, by rw [← rr.length]; exact hl, names_read is ds vs ρ σ hl rr r kk⟩
      · cases st
    | _ => cases st
end
end Iv

set_option Elab.async false
set_option linter.all false
set_option maxRecDepth 100000
set_option maxHeartbeats 1000000
namespace Iv
open PySem PySem.Spec PyProof.Rows L2

/-- J walks xs -/
def Walk (K : PySem.W.Frag) (S0 : Sto) (μ0 : Mu) (H0 : Hp) (J : It) (xs : List D) : Prop := ∀ (S : Sto) (μ : Mu) (H : Hp), Good K S μ H → EvoW S0 μ0 H0 S μ H →
  (∀ i, i < xs.length → J.go i H) ∧ J.stop xs.length H ∧ ∀ i v H', i < xs.length → J.yld i H v H' → ∃ d, xs[i]? = some d ∧ Good K S μ H' ∧ Evo S μ H S μ H' ∧ Rep K S μ H' d v
def tI (K : PySem.W.Frag) (F : CF) (ie : E) : TI := fun σ H R => ∃ (ρ : Env) (S : Sto) (μ : Mu) (d : D) (S' : Sto) (xs : List D), Good K S μ H ∧ RelS K S μ H ρ σ ∧ ev F ie ρ S = some (d, S') ∧ items d = some xs ∧
  ∀ J μ' H', Good K S' μ' H' → Evo S μ H S' μ' H' → Walk K S' μ' H' J xs → R J H'

theorem walk_list {K : PySem.W.Frag} {S : Sto} {μ : Mu} {H : Hp} {a : Addr} {vs : List V} {xs : List D} (g : Good K S μ H) (q : (Rd H a (.lst vs) ∧ ¬ Live S μ a) ∨ KL K a vs) (r : Reps K S μ H xs vs) : Walk K S μ H (Itl K a) xs := fun S' μ' H' g' e' => by
  have q' : SqL K H' a vs := by
    rcases q with q | q
    · exact .inl (rdL e' q.1 q.2).1
    · exact SqP.l (.inr q)
  have r' := r.mono g e'
  refine ⟨fun i hi => ?_, ⟨vs, q', by rw [r.length]; exact Nat.le_refl _⟩, fun i v H2 hi y => ?_⟩
  · obtain ⟨v, hv, _⟩ := r.get (List.getElem?_eq_getElem hi)
    exact ⟨vs, v, q', hv⟩
  · obtain ⟨rfl, y⟩ := y
    obtain ⟨w, hw, rw'⟩ := r'.get (List.getElem?_eq_getElem hi)
    have := y vs q'
    rw [hw] at this
    cases this
    exact ⟨_, List.getElem?_eq_getElem hi, g', Evo.refl _ _ _, rw'⟩
theorem walk_tup {K : PySem.W.Frag} {S : Sto} {μ : Mu} {H : Hp} {a : Addr} {vs : List V} {xs : List D} (g : Good K S μ H) (q : SqT K H a vs) (r : Reps K S μ H xs vs) : Walk K S μ H (Itt K a) xs := fun S' μ' H' g' e' => by
  have q' : SqT K H' a vs := sqT_mono g e' q
  have r' := r.mono g e'
  refine ⟨fun i hi => ?_, ⟨vs, q', by rw [r.length]; exact Nat.le_refl _⟩, fun i v H2 hi y => ?_⟩
  · obtain ⟨v, hv, _⟩ := r.get (List.getElem?_eq_getElem hi)
    exact ⟨vs, v, q', hv⟩
  · obtain ⟨rfl, y⟩ := y
    obtain ⟨w, hw, rw'⟩ := r'.get (List.getElem?_eq_getElem hi)
    have := y vs q'
    rw [hw] at this
    cases this
    exact ⟨_, List.getElem?_eq_getElem hi, g', Evo.refl _ _ _, rw'⟩
theorem walk_str {K : PySem.W.Frag} {S : Sto} {μ : Mu} {H : Hp} {x : Str} : Walk K S μ H (Its x) (x.cps.toList.map fun c => .str ⟨#[c]⟩) := fun S' μ' H' g' e' => by
  have hl : (x.cps.toList.map fun c => D.str ⟨#[c]⟩).length = x.cps.size := by simp
  refine ⟨fun i hi => by rw [hl] at hi; exact hi, by rw [hl]; exact Nat.le_refl _, fun i v H2 hi y => ?_⟩
  obtain ⟨rfl, c, hc, rfl⟩ := y
  exact ⟨.str ⟨#[c]⟩, by rw [List.getElem?_map, Array.getElem?_toList, hc]; rfl, g', Evo.refl _ _ _, rfl⟩
theorem walk_rng {K : PySem.W.Frag} {S : Sto} {μ : Mu} {H : Hp} {lo : Int} {n : Nat} : Walk K S μ H (Itr lo n) ((List.range n).map fun (k : Nat) => .int (lo + k)) := fun S' μ' H' g' e' => by
  have hl : ((List.range n).map fun (k : Nat) => D.int (lo + k)).length = n := by simp
  refine ⟨fun i hi => by rw [hl] at hi; exact hi, by rw [hl]; exact Nat.le_refl _, fun i v H2 hi y => ?_⟩
  obtain ⟨rfl, rfl⟩ := y
  rw [hl] at hi
  exact ⟨.int (lo + i), by rw [List.getElem?_map, List.getElem?_range hi]; rfl, g', Evo.refl _ _ _, rfl⟩

section
variable {X : Cx} {F : CF} {a b c e tg : Expr} {es : List Expr} {ia ib ic ie : E} {ies : Es} {pos : Pos}
theorem PI.weak {X : Cx} {tg e : Expr} {t t' : TI} (h : PI X tg e t) (k : ∀ σ H R, t' σ H R → t σ H R) : PI X tg e t' := ⟨fun pins s σ H R I q => h.run pins s σ H R I (k σ H R q)⟩
/-- a list, a tuple, a text -/
theorem it_e (ha : PE X a (tE X.K F ia)) : PI X tg a (tI X.K F ia) := by
  refine ⟨fun pins s σ H R I ⟨ρ, S, μ, d, S', xs, g, r, q, hi, k⟩ => ?_⟩
  cases d with
  | lst ys =>
    cases hi
    refine (pi_list ha).run pins s σ H R I ⟨ρ, S, μ, _, S', g, r, q, fun v μ1 H1 g1 e1 rv => ?_⟩
    obtain ⟨p, vs, rfl, qa, ra⟩ := rv
    exact ⟨p, rfl, ⟨vs, SqP.l (qa.elim (fun z => .inl z.1) .inr)⟩, k _ _ _ g1 e1 (walk_list g1 qa ra)⟩
  | tup ys =>
    cases hi
    refine (pi_tup ha).run pins s σ H R I ⟨ρ, S, μ, _, S', g, r, q, fun v μ1 H1 g1 e1 rv => ?_⟩
    obtain ⟨p, vs, rfl, qa, ra⟩ := rv
    exact ⟨p, rfl, ⟨vs, qa⟩, k _ _ _ g1 e1 (walk_tup g1 qa ra)⟩
  | str x =>
    cases hi
    refine (pi_str ha).run pins s σ H R I ⟨ρ, S, μ, _, S', g, r, q, fun v μ1 H1 g1 e1 rv => ?_⟩
    exact ⟨x, rv, k _ _ _ g1 e1 walk_str⟩
  | _ => cases hi
theorem it_rng1 {p : Pos} (hg : Gl X "range") (hm : X.mg "range" = none) (ha : PE X a (tE X.K F ia)) (hs : starEach [a] X.env = [(false, eval a X.env)] := by rfl) : PI X tg (.Call (.Name "range" p) [a] [] pos) (tI X.K F (.rng (.c (.int 0)) ia)) :=
  PI.weak (pi_range1 hg hm (a_cons ha a_nil hs) hs) fun σ H R ⟨ρ, S, μ, d, S', xs, g, r, q, hi, k⟩ => by
    simp only [ev] at q
    split at q
    · rename_i j S2 eb
      split at q
      · rename_i hb
        cases q
        cases hi
        rw [Bool.and_eq_true, Bool.and_eq_true, Bool.and_eq_true, decide_eq_true_eq, decide_eq_true_eq, decide_eq_true_eq, decide_eq_true_eq] at hb
        refine ⟨ρ, S, μ, [.int j], S', g, r, by simp only [evs, eb], fun vs μ1 H1 g1 e1 rv => ?_⟩
        obtain ⟨v, rfl, hv⟩ := reps1 rv
        cases (show v = V.int j from hv)
        refine ⟨j, rfl, hb.1.2, hb.2, k _ μ1 H1 g1 e1 ?_⟩
        rw [Int.sub_zero]
        exact walk_rng
      · cases q
    · cases q
theorem it_rng2 {p : Pos} (hg : Gl X "range") (hm : X.mg "range" = none) (ha : PE X a (tE X.K F ia)) (hb : PE X b (tE X.K F ib)) (hs : starEach [a, b] X.env = [(false, eval a X.env), (false, eval b X.env)] := by rfl) (hs2 : starEach [b] X.env = [(false, eval b X.env)] := by rfl) :
    PI X tg (.Call (.Name "range" p) [a, b] [] pos) (tI X.K F (.rng ia ib)) :=
  PI.weak (pi_range2 hg hm (a_cons ha (a_cons hb a_nil hs2) (by rw [hs, hs2])) hs hs2) fun σ H R ⟨ρ, S, μ, d, S', xs, g, r, q, hi, k⟩ => by
    simp only [ev] at q
    split at q
    · rename_i i S1 ea
      split at q
      · rename_i j S2 eb
        split at q
        · rename_i hb
          cases q
          cases hi
          rw [Bool.and_eq_true, Bool.and_eq_true, Bool.and_eq_true, decide_eq_true_eq, decide_eq_true_eq, decide_eq_true_eq, decide_eq_true_eq] at hb
          refine ⟨ρ, S, μ, [.int i, .int j], S', g, r, by simp only [evs, ea, eb], fun vs μ1 H1 g1 e1 rv => ?_⟩
          obtain ⟨v, ws, rfl, hv, hw⟩ := rv
          obtain ⟨w, rfl, hw2⟩ := reps1 hw
          cases (show v = V.int i from hv)
          cases (show w = V.int j from hw2)
          exact ⟨i, j, rfl, ⟨hb.1.1.1, hb.1.1.2, hb.1.2, hb.2⟩, k _ μ1 H1 g1 e1 walk_rng⟩
        · cases q
      · cases q
    · cases q
/-- zip of two lists of one length -/
theorem walk_zip {K : PySem.W.Frag} {S : Sto} {μ : Mu} {H : Hp} {a b : Addr} {vs ws : List V} {xs ys : List D} (g : Good K S μ H) (q : (Rd H a (.lst vs) ∧ ¬ Live S μ a) ∨ KL K a vs) (r : Reps K S μ H xs vs) (q2 : (Rd H b (.lst ws) ∧ ¬ Live S μ b) ∨ KL K b ws) (r2 : Reps K S μ H ys ws)
    (hl : xs.length = ys.length) : Walk K S μ H (Itz K a b) ((xs.zip ys).map fun p => .tup [p.1, p.2]) := fun S' μ' H' g' e' => by
  have lst : ∀ {c : Addr} {us : List V}, (Rd H c (.lst us) ∧ ¬ Live S μ c) ∨ KL K c us → SqL K H' c us := fun q => by
    rcases q with q | q
    · exact .inl (rdL e' q.1 q.2).1
    · exact SqP.l (.inr q)
  have qa := lst q
  have qb := lst q2
  have ra := r.mono g e'
  have rb := r2.mono g e'
  have hz : ((xs.zip ys).map fun p => D.tup [p.1, p.2]).length = xs.length := by rw [List.length_map, List.length_zip]; omega
  refine ⟨fun i hi => ?_, ⟨vs, ws, qa, qb, .inl (by rw [hz, r.length]; exact Nat.le_refl _)⟩, fun i v H2 hi y => ?_⟩
  · rw [hz] at hi
    obtain ⟨v, hv, _⟩ := r.get (List.getElem?_eq_getElem hi)
    obtain ⟨w, hw, _⟩ := r2.get (List.getElem?_eq_getElem (show i < ys.length by omega))
    exact ⟨vs, ws, v, w, qa, qb, hv, hw⟩
  · rw [hz] at hi
    obtain ⟨T, x, y', rfl, hT, rfl, h1, h2⟩ := y
    have hi2 : i < ys.length := by omega
    obtain ⟨v, hv, rv⟩ := ra.get (List.getElem?_eq_getElem hi)
    obtain ⟨w, hw, rw'⟩ := rb.get (List.getElem?_eq_getElem hi2)
    have e1 := h1 vs qa
    have e2 := h2 ws qb
    rw [hv] at e1; cases e1
    rw [hw] at e2; cases e2
    refine ⟨.tup [xs[i], ys[i]], ?_, good_new g' hT, evo_new g' hT, rep_tup_new g' hT ⟨_, _, rfl, rv, _, _, rfl, rw', rfl⟩⟩
    rw [List.getElem?_map, List.getElem?_eq_getElem (by rw [List.length_zip]; omega), List.getElem_zip]
    rfl
theorem it_zip {elts : List Expr} {kk : Nat} {p tpos : Pos} (hg : Gl X "zip") (hm : X.mg "zip" = none) (ha : PE X a (tE X.K F ia)) (hb : PE X b (tE X.K F ib)) (hs : starEach [a, b] X.env = (false, eval a X.env) :: starEach [b] X.env := by rfl) (hs2 : starEach [b] X.env = (false, eval b X.env) :: starEach [] X.env := by rfl)
    (hpl : (backTo pos (starEach [b] X.env)).any (·.1) = false := by rfl) : PI X (.Tuple elts kk tpos) (.Call (.Name "zip" p) [a, b] [] pos) (tI X.K F (.zip ia ib)) :=
  PI.weak (pi_zip hg hm (a_cons ha (a_cons hb a_nil hs2) hs) hs hpl) fun σ H R ⟨ρ, S, μ, d, S', xs, g, r, q, hi, k⟩ => by
    simp only [ev] at q
    split at q
    · rename_i as S1 ea
      split at q
      · rename_i bs S2 eb
        split at q
        · rename_i hl
          cases q
          cases hi
          refine ⟨ρ, S, μ, [.lst as, .lst bs], S', g, r, by simp only [evs, ea, eb], fun vs μ1 H1 g1 e1 rv => ?_⟩
          obtain ⟨v, ws, rfl, hv, hw⟩ := rv
          obtain ⟨w, rfl, hw2⟩ := reps1 hw
          obtain ⟨p1, vs, rfl, qa, ra⟩ := hv
          obtain ⟨p2, ws, rfl, qb, rb⟩ := hw2
          exact ⟨p1, p2, vs, ws, rfl, SqP.l (qa.elim (fun z => .inl z.1) .inr), SqP.l (qb.elim (fun z => .inl z.1) .inr), k _ μ1 H1 g1 e1 (walk_zip g1 qa ra qb rb hl)⟩
        · cases q
      · cases q
    · cases q
theorem walk_enum {K : PySem.W.Frag} {S : Sto} {μ : Mu} {H : Hp} {a : Addr} {vs : List V} {xs : List D} (g : Good K S μ H) (q : (Rd H a (.lst vs) ∧ ¬ Live S μ a) ∨ KL K a vs) (r : Reps K S μ H xs vs) :
    Walk K S μ H (Ite K a) (((List.range xs.length).zip xs).map fun p => .tup [.int (p.1 : Nat), p.2]) := fun S' μ' H' g' e' => by
  have qa : SqL K H' a vs := by
    rcases q with q | q
    · exact .inl (rdL e' q.1 q.2).1
    · exact SqP.l (.inr q)
  have ra := r.mono g e'
  have hz : (((List.range xs.length).zip xs).map fun p => D.tup [.int (p.1 : Nat), p.2]).length = xs.length := by rw [List.length_map, List.length_zip, List.length_range]; omega
  refine ⟨fun i hi => ?_, ⟨vs, qa, by rw [hz, r.length]; exact Nat.le_refl _⟩, fun i v H2 hi y => ?_⟩
  · rw [hz] at hi
    obtain ⟨v, hv, _⟩ := r.get (List.getElem?_eq_getElem hi)
    exact ⟨vs, v, qa, hv⟩
  · rw [hz] at hi
    obtain ⟨T, x, rfl, hT, rfl, h1⟩ := y
    obtain ⟨v, hv, rv⟩ := ra.get (List.getElem?_eq_getElem hi)
    have e1 := h1 vs qa
    rw [hv] at e1; cases e1
    refine ⟨.tup [.int i, xs[i]], ?_, good_new g' hT, evo_new g' hT, rep_tup_new g' hT ⟨_, _, rfl, rfl, _, _, rfl, rv, rfl⟩⟩
    rw [List.getElem?_map, List.getElem?_eq_getElem (by rw [List.length_zip, List.length_range]; omega), List.getElem_zip, List.getElem_range]
    rfl
theorem it_enum {elts : List Expr} {kk : Nat} {p tpos : Pos} (hg : Gl X "enumerate") (hm : X.mg "enumerate" = none) (ha : PE X a (tE X.K F ia)) (hs : starEach [a] X.env = [(false, eval a X.env)] := by rfl) :
    PI X (.Tuple elts kk tpos) (.Call (.Name "enumerate" p) [a] [] pos) (tI X.K F (.enum ia)) :=
  PI.weak (pi_enum hg hm (a_cons ha a_nil hs) hs) fun σ H R ⟨ρ, S, μ, d, S', xs, g, r, q, hi, k⟩ => by
    simp only [ev] at q
    split at q
    · rename_i as S1 ea
      cases q
      cases hi
      refine ⟨ρ, S, μ, [.lst as], S', g, r, by simp only [evs, ea], fun vs μ1 H1 g1 e1 rv => ?_⟩
      obtain ⟨v, rfl, hv⟩ := reps1 rv
      obtain ⟨p1, vs, rfl, qa, ra⟩ := hv
      exact ⟨p1, vs, rfl, SqP.l (qa.elim (fun z => .inl z.1) .inr), k _ μ1 H1 g1 e1 (walk_enum g1 qa ra)⟩
    · cases q

theorem wipe_get {σ : L2.St} {j : Nat} : ∀ {vs : List Nat}, (wipe σ vs)[j]? = if j ∈ vs ∧ j < σ.length then some none else σ[j]?
  | [] => by simp [wipe]
  | v :: vs => by
    unfold wipe
    have ih := wipe_get (σ := σ) (j := j) (vs := vs)
    have hl := wipe_length σ vs
    by_cases hj : v = j
    · subst hj
      by_cases lt : v < σ.length
      · rw [List.getElem?_set_self (by rw [hl]; exact lt), if_pos ⟨List.mem_cons_self, lt⟩]
      · rw [List.getElem?_eq_none (by rw [List.length_set, hl]; omega), if_neg fun z => lt z.2, List.getElem?_eq_none (by omega)]
    · rw [List.getElem?_set_ne hj, ih]
      have : (j ∈ v :: vs ∧ j < σ.length) ↔ (j ∈ vs ∧ j < σ.length) := by
        rw [List.mem_cons]
        exact ⟨fun z => ⟨z.1.resolve_left fun q => hj q.symm, z.2⟩, fun z => ⟨.inr z.1, z.2⟩⟩
      simp only [this]
theorem wipe_eq {σ σ' : L2.St} {vs : List Nat} (hl : σ'.length = σ.length) (h : ∀ j, j ∉ vs → σ'[j]? = (wipe σ vs)[j]?) : wipe σ' vs = wipe σ vs := by
  apply List.ext_getElem?
  intro j
  rw [wipe_get, wipe_get, hl]
  by_cases c : j ∈ vs ∧ j < σ.length
  · rw [if_pos c, if_pos c]
  · rw [if_neg c, if_neg c]
    by_cases hj : j ∈ vs
    · have : ¬ j < σ.length := fun z => c ⟨hj, z⟩
      rw [List.getElem?_eq_none (by omega), List.getElem?_eq_none (by omega)]
    · rw [h j hj, wipe_get, if_neg fun z => hj z.1]
theorem rels_wipe {K : PySem.W.Frag} {S : Sto} {μ : Mu} {H : Hp} {ρ : Env} {σ : L2.St} : ∀ {t : Tg}, RelS K S μ H ρ σ → RelS K S μ H (wipeT t ρ) (wipe σ (slotsT t))
  | .n i, r => r.drop i
  | .t is, r => by
    show RelS K S μ H (is.foldr (fun i r => r.set i none) ρ) (wipe σ is)
    induction is with
    | nil => exact r
    | cons i is ih => exact ih.drop i
/-- one turn of a comprehension, by values -/
def StepOk (K : PySem.W.Frag) (ρ : Env) (t : Tg) (tt : TT) (te : TE) (f : D → Sto → Option (Option D × Sto)) : Prop := ∀ d S S' o, f d S = some (o, S') → ∃ ρ', setT t d (wipeT t ρ) = some ρ' ∧
  ∀ μ H σ2 (Y : V → Hp → Prop) (N : Hp → Prop), Good K S μ H → RelS K S μ H ρ' σ2 →
    (∀ μ' H', Good K S' μ' H' → Evo S μ H S' μ' H' → match o with | some y => ∀ v, Rep K S' μ' H' y v → Y v H' | none => N H') → tt σ2 H fun b H3 => if b = true then te σ2 H3 Y else N H3
theorem comp_read {K : PySem.W.Frag} {t : Tg} {tt : TT} {te : TE} {mt : Bool} {f : D → Sto → Option (Option D × Sto)} {σ : L2.St} {H : Hp} {Q : VK} {ρ : Env} {S S1 S2 S' : Sto} {μ : Mu} {x d : D} {xs ys : List D} (g : Good K S μ H) (r : RelS K S μ H ρ σ) (ea : ev F ia ρ S = some (x, S1)) (hx : items x = some xs)
    (hf : StepOk K ρ t tt te f) (er : compRun f xs [] S1 = some (ys, S2)) (em : mkList mt ys S2 = some (d, S')) (k : ContS K S μ H S' d Q) : tLc (tI K F ia) (gT K t) tt te (slotsT t) σ H Q := by
  refine ⟨ρ, S, μ, x, S1, xs, g, r, ea, hx, fun J μ1 H1 g1 e1 W L hD => ?_⟩
  have nD : L ∉ μ1.z := fun z => by
    obtain ⟨ws, q⟩ := g1.zl L z
    rw [hD] at q; cases q
  refine ⟨fun i m H2 => m = xs.length - i ∧ i ≤ xs.length ∧ ∃ (acc : List D) (vs : List V) (S2' : Sto) (μ2 : Mu), H2 L = some (.lst vs) ∧ μ2.z = L :: μ1.z ∧ Good K S2' μ2 H2 ∧ EvoW S1 μ1 H1 S2' μ2 H2 ∧ (∀ a ∈ μ1.z, ∀ o, H1 a = some o → H2 a = some o) ∧
      Reps K S2' μ2 H2 acc vs ∧ acc.length ≤ 100000 ∧ compRun f (xs.drop i) acc S2' = some (ys, S2),
    ⟨xs.length, by simp, Nat.zero_le _, [], [], S1, μ1.hold L, upd_same, rfl, good_begin g1 hD, evoW_begin g1 hD, fun a ha o q => by rw [upd_ne (ne_of_none q hD)]; exact q, rfl, by simp, er⟩, ?_⟩
  rintro i m H2 ⟨rfl, hi, acc, vs, S3, μ3, hL, hz, g3, e3, hh, ra, hal, ec⟩
  have hDz : L ∈ μ3.z := by rw [hz]; exact List.mem_cons_self
  obtain ⟨go, stop, yl⟩ := W S3 μ3 H2 g3 e3
  by_cases hlt : i < xs.length
  · refine .inr ⟨go i hlt, _, fun H' h' => ⟨xs.length - (i + 1), by omega, h'⟩, fun v H4 hy => ?_⟩
    obtain ⟨dd, hdd, g4, e4, r4⟩ := yl i v H4 hlt hy
    have edrop : xs.drop i = dd :: xs.drop (i + 1) := by
      rw [List.drop_eq_getElem_cons hlt]
      rw [List.getElem?_eq_getElem hlt] at hdd
      cases hdd
      rfl
    rw [edrop] at ec
    unfold compRun at ec
    -- the turn
    have base : RelS K S3 μ3 H4 ρ σ := ((r.mono g e1.w).mono g1 e3).mono g3 e4.w
    have turn : ∀ o S5, f dd S3 = some (o, S5) → (match o with | none => compRun f (xs.drop (i + 1)) acc S5 = some (ys, S2) | some y => small (acc.length + 1) = true ∧ compRun f (xs.drop (i + 1)) (acc ++ [y]) S5 = some (ys, S2)) →
        gT K t v (wipe σ (slotsT t)) H4 fun σ2 H5 => wipe σ2 (slotsT t) = wipe σ (slotsT t) ∧ tt σ2 H5 fun b H6 => if b = true then te σ2 H6 fun y H7 => ∃ acc, H7 L = some (.lst acc) ∧ acc.length < sizeLine ∧ (xs.length - (i + 1) = xs.length - (i + 1) ∧ i + 1 ≤ xs.length ∧ ∃ (acc' : List D) (vs : List V) (S2' : Sto) (μ2 : Mu), (upd H7 L (.lst (acc ++ [y]))) L = some (.lst vs) ∧ μ2.z = L :: μ1.z ∧ Good K S2' μ2 (upd H7 L (.lst (acc ++ [y]))) ∧ EvoW S1 μ1 H1 S2' μ2 (upd H7 L (.lst (acc ++ [y]))) ∧ (∀ a ∈ μ1.z, ∀ o, H1 a = some o → (upd H7 L (.lst (acc ++ [y]))) a = some o) ∧
      Reps K S2' μ2 (upd H7 L (.lst (acc ++ [y]))) acc' vs ∧ acc'.length ≤ 100000 ∧ compRun f (xs.drop (i + 1)) acc' S2' = some (ys, S2)) else (xs.length - (i + 1) = xs.length - (i + 1) ∧ i + 1 ≤ xs.length ∧ ∃ (acc : List D) (vs : List V) (S2' : Sto) (μ2 : Mu), H6 L = some (.lst vs) ∧ μ2.z = L :: μ1.z ∧ Good K S2' μ2 H6 ∧ EvoW S1 μ1 H1 S2' μ2 H6 ∧ (∀ a ∈ μ1.z, ∀ o, H1 a = some o → H6 a = some o) ∧
      Reps K S2' μ2 H6 acc vs ∧ acc.length ≤ 100000 ∧ compRun f (xs.drop (i + 1)) acc S2' = some (ys, S2)) := by
      intro o S5 ef hrest
      obtain ⟨ρ', st, fin⟩ := hf dd S3 S5 o ef
      refine ⟨dd, _, ρ', S3, μ3, g4, rels_wipe base, r4, st, fun σ2 r2 l2 n2 => ⟨wipe_eq (by rw [l2, wipe_length]) n2, ?_⟩⟩
      refine fin μ3 H4 σ2 _ _ g4 r2 fun μ5 H5 g5 e5 => ?_
      have e45 := e4.trans e5
      have hz5 : μ5.z = L :: μ1.z := by rw [e45.z, hz]
      have hL5 : H5 L = some (.lst vs) := e45.hold L _ hDz hL
      have hh5 : ∀ a ∈ μ1.z, ∀ o, H1 a = some o → H5 a = some o := fun a ha o q => e45.hold a _ (by rw [hz]; exact List.mem_cons_of_mem _ ha) (hh a ha o q)
      cases o with
      | none => exact ⟨rfl, hlt, acc, vs, S5, μ5, hL5, hz5, g5, e3.trans e45.w, hh5, ra.mono g3 e45.w, hal, hrest⟩
      | some y =>
        intro w rw'
        have hD5 : L ∈ μ5.z := by rw [hz5]; exact List.mem_cons_self
        have eg := evoW_grow (S := S5) (H := H5) (o := .lst (vs ++ [w])) hD5
        have rv := ra.mono g3 e45.w
        refine ⟨vs, hL5, by rw [← rv.length, sizeLine_eq]; omega, rfl, hlt, acc ++ [y], vs ++ [w], S5, μ5, upd_same, hz5, good_grow g5 hD5, (e3.trans e45.w).trans eg, fun a ha o q => ?_, (rv.mono g5 eg).append ⟨w, [], rfl, rw'.mono g5 eg, rfl⟩, ?_, hrest.2⟩
        · rw [upd_ne fun z => nD (by rw [← z]; exact ha)]
          exact hh5 a ha o q
        · have := small_le hrest.1
          rw [List.length_append]
          exact this
    split at ec
    · cases ec
    · rename_i S5 ef
      exact turn none S5 ef ec
    · rename_i y S5 ef
      split at ec
      · rename_i hsm
        exact turn (some y) S5 ef ⟨hsm, ec⟩
      · cases ec
  · have hi' : i = xs.length := by omega
    subst hi'
    refine .inl ⟨stop, ?_⟩
    rw [List.drop_length] at ec
    unfold compRun at ec
    cases ec
    obtain ⟨ps, zz⟩ := μ3
    have hz' : zz = L :: μ1.z := hz
    subst hz'
    have hold2 : ∀ a o, a ∈ μ.z → H a = some o → H2 a = some o := fun a o ha q => hh a (by rw [e1.z]; exact ha) o (e1.hold a o ha q)
    unfold mkList at em
    cases mt with
    | false =>
      rw [if_neg Bool.false_ne_true] at em
      cases em
      have ge : Good K S2 ⟨ps, μ1.z⟩ H2 := good_end (p := L) g3
      have ee : EvoW S2 ⟨ps, L :: μ1.z⟩ H2 S2 ⟨ps, μ1.z⟩ H2 := evoW_end (μ := ⟨ps, μ1.z⟩) (p := L)
      refine k (.ref L) ⟨ps, μ1.z⟩ H2 ge ⟨(e1.w.trans e3).trans ee, e1.z, hold2⟩ ⟨L, vs, rfl, .inl ⟨.inl hL, fun l => ?_⟩, ra.mono g3 ee⟩
      rcases l with l | l
      · exact g3.zn L List.mem_cons_self l
      · exact nD l
    | true =>
      rw [if_pos rfl] at em
      split at em
      · rename_i hp
        cases em
        obtain ⟨ge, ee⟩ := good_place (μ := ⟨ps, μ1.z⟩) (p := L) g3 nD hL ra hp
        exact k (.ref L) _ H2 ge ⟨(e1.w.trans e3).trans ee, e1.z, hold2⟩ ⟨L, rfl, get_last (l := ps) (x := L) g3.len⟩
      · cases em

/-- the comprehension's readings -/
theorem step_plain {K : PySem.W.Frag} {ρ : Env} {t : Tg} : StepOk K ρ t tYes (tE K F ie) (fun d S => match setT t d (wipeT t ρ) with
    | none => none
    | some ρ' => match ev F ie ρ' S with
      | none => none
      | some (y, S') => some (some y, S')) := by
  intro d S S' o h
  simp only at h
  split at h
  · cases h
  · rename_i ρ' st
    split at h
    · cases h
    · rename_i y S1 ee
      cases h
      exact ⟨ρ', st, fun μ H σ2 Y N g r k => by
        show (if true = true then tE K F ie σ2 H Y else N H)
        rw [if_pos rfl]
        exact ⟨ρ', S, μ, y, _, g, r, ee, fun v μ' H' g' e' rv => k μ' H' g' e' v rv⟩⟩
theorem step_if {K : PySem.W.Frag} {ρ : Env} {t : Tg} : StepOk K ρ t (tT K F ic) (tE K F ie) (fun d S => match setT t d (wipeT t ρ) with
    | none => none
    | some ρ' => match ev F ic ρ' S with
      | some (.bl true, S1) => (match ev F ie ρ' S1 with
        | none => none
        | some (y, S') => some (some y, S'))
      | some (.bl false, S1) => some (none, S1)
      | _ => none) := by
  intro d S S' o h
  simp only at h
  split at h
  · cases h
  · rename_i ρ' st
    split at h
    · rename_i S1 ec
      split at h
      · cases h
      · rename_i y S2 ee
        cases h
        exact ⟨ρ', st, fun μ H σ2 Y N g r k => ⟨ρ', S, μ, true, S1, g, r, ec, fun μ1 H1 g1 e1 => by
          show (if true = true then _ else _)
          rw [if_pos rfl]
          exact ⟨ρ', S1, μ1, y, _, g1, r.mono g e1.w, ee, fun v μ' H' g' e' rv => k μ' H' g' (e1.trans e') v rv⟩⟩⟩
    · rename_i S1 ec
      cases h
      exact ⟨ρ', st, fun μ H σ2 Y N g r k => ⟨ρ', S, μ, false, _, g, r, ec, fun μ1 H1 g1 e1 => by
        show (if false = true then _ else _)
        rw [if_neg Bool.false_ne_true]
        exact k μ1 H1 g1 e1⟩⟩
    · cases h
theorem lc_plain {K : PySem.W.Frag} {mt : Bool} {t : Tg} {σ : L2.St} {H : Hp} {Q : VK} (h : tE K F (.comp mt t ia ie) σ H Q) : tLc (tI K F ia) (gT K t) tYes (tE K F ie) (slotsT t) σ H Q := by
  obtain ⟨ρ, S, μ, d, S', g, r, q, k⟩ := h
  simp only [ev] at q
  split at q
  · cases q
  · rename_i x S1 ea
    split at q
    · cases q
    · rename_i xs hx
      split at q
      · cases q
      · rename_i ys S2 er
        exact comp_read g r ea hx step_plain er q k
theorem lc_if {K : PySem.W.Frag} {mt : Bool} {t : Tg} {σ : L2.St} {H : Hp} {Q : VK} (h : tE K F (.compI mt t ia ic ie) σ H Q) : tLc (tI K F ia) (gT K t) (tT K F ic) (tE K F ie) (slotsT t) σ H Q := by
  obtain ⟨ρ, S, μ, d, S', g, r, q, k⟩ := h
  simp only [ev] at q
  split at q
  · cases q
  · rename_i x S1 ea
    split at q
    · cases q
    · rename_i xs hx
      split at q
      · cases q
      · rename_i ys S2 er
        exact comp_read g r ea hx step_if er q k
/-- the block of a comprehension -/
abbrev Blk (X : Cx) (scope : Scope) (s : Shared) (H : Hp) (C : Addr) (cl : List (Str × Addr)) (fp : List Addr) : Cx := X.blk s H scope (compEnvC scope cl C X.env) fp
theorem cok_blk {scope : Scope} {s : Shared} {H : Hp} {C : Addr} {cl : List (Str × Addr)} {fp : List Addr} (ok : Cok X) : Cok (Blk X scope s H C cl fp) := ⟨ok.nd, ok.calm, ok.gd, ok.un⟩
theorem call_blk {fi ar : Nat} {x : Str} {scope : Scope} {s : Shared} {H : Hp} {C : Addr} {cl : List (Str × Addr)} {fp : List Addr} (h : CallOk X F fi ar x) : CallOk (Blk X scope s H C cl fp) F fi ar x := ⟨h.ar_, h.ex⟩
theorem callK_blk {fi ar n : Nat} {x : Str} {ks : List Str} {pm : List Nat} {scope : Scope} {s : Shared} {H : Hp} {C : Addr} {cl : List (Str × Addr)} {fp : List Addr} (h : CallKOk X F fi ar x n ks pm) : CallKOk (Blk X scope s H C cl fp) F fi ar x n ks pm := ⟨h.ar_, h.ex⟩
theorem i_comp {mt : Bool} {t : Tg} {elt tg iter : Expr} {scope : Scope} {own : List (Str × Nat)} (ok : Cok X) (hs : own.map (·.2) = slotsT t) (hi : PI X tg iter (tI X.K F ia)) (bk : BlkOk X.N X.env.scope scope own)
    (hg : ∀ s H C cl fp, PG (Blk X scope s H C cl fp) tg (gT X.K t)) (he : ∀ s H C cl fp, PE (Blk X scope s H C cl fp) elt (tE X.K F ie)) (hf : ∀ x, foldedSetIterable iter X.env x = pure x := by intro _; rfl) :
    PE X (.ListComp elt [⟨tg, iter, [], 0⟩] scope pos) (tE X.K F (.comp mt t ia ie)) :=
  PE.weak (pe_lc ok.calm ok.nd hi bk hg (fun _ _ _ _ _ => pts_nil) he hf) fun σ H Q h => by rw [hs]; exact lc_plain h
theorem i_compI {mt : Bool} {t : Tg} {elt tg iter c : Expr} {scope : Scope} {own : List (Str × Nat)} (ok : Cok X) (hs : own.map (·.2) = slotsT t) (hi : PI X tg iter (tI X.K F ia)) (bk : BlkOk X.N X.env.scope scope own)
    (hg : ∀ s H C cl fp, PG (Blk X scope s H C cl fp) tg (gT X.K t)) (hc : ∀ s H C cl fp, PT (Blk X scope s H C cl fp) c (tT X.K F ic)) (he : ∀ s H C cl fp, PE (Blk X scope s H C cl fp) elt (tE X.K F ie)) (hf : ∀ x, foldedSetIterable iter X.env x = pure x := by intro _; rfl) :
    PE X (.ListComp elt [⟨tg, iter, [c], 0⟩] scope pos) (tE X.K F (.compI mt t ia ic ie)) :=
  PE.weak (pe_lc ok.calm ok.nd hi bk hg (fun s H C cl fp => pts_one (hc s H C cl fp)) he hf) fun σ H Q h => by rw [hs]; exact lc_if h
end

section
variable {X : Cx} {F : CF} {w : Nat} {a b c e tg : Expr} {es : List Expr} {ia ib ic ie io : E} {ies : Es} {pos : Pos} {st : Stmt} {sts : List Stmt} {ist : Iv.St} {iss its : Ss}
/-- what holds behind a statement -/
def OutOk (K : PySem.W.Frag) (S : Sto) (μ : Mu) (H : Hp) (D : Ends) (σ : L2.St) (o : Out) (S' : Sto) : Prop := match o with
  | .nx ρ' => ∀ σ' μ' H', Good K S' μ' H' → Evo S μ H S' μ' H' → RelS K S' μ' H' ρ' σ' → D.nx σ' H'
  | .rt d => ∀ v μ' H', Good K S' μ' H' → Evo S μ H S' μ' H' → Rep K S' μ' H' d v → D.rt v H'
  | .bk ρ' => ∀ σ' μ' H', Good K S' μ' H' → Evo S μ H S' μ' H' → RelS K S' μ' H' ρ' σ' → D.bk σ' H'
  | .ct ρ' => ∀ σ' μ' H', Good K S' μ' H' → Evo S μ H S' μ' H' → RelS K S' μ' H' ρ' σ' → D.ct σ' H'
theorem OutOk.trans {K : PySem.W.Frag} {S S1 S' : Sto} {μ μ1 : Mu} {H H1 : Hp} {D : Ends} {σ : L2.St} {o : Out} (e : Evo S μ H S1 μ1 H1) (h : OutOk K S μ H D σ o S') : OutOk K S1 μ1 H1 D σ o S' := by
  cases o with
  | nx ρ => exact fun σ' μ' H' g e' r => h σ' μ' H' g (e.trans e') r
  | rt d => exact fun v μ' H' g e' r => h v μ' H' g (e.trans e') r
  | bk ρ => exact fun σ' μ' H' g e' r => h σ' μ' H' g (e.trans e') r
  | ct ρ => exact fun σ' μ' H' g e' r => h σ' μ' H' g (e.trans e') r
def tS (K : PySem.W.Frag) (F : CF) (w : Nat) (st : Iv.St) : TS := fun D σ H => ∃ (ρ : Env) (S : Sto) (μ : Mu) (o : Out) (S' : Sto), Good K S μ H ∧ RelS K S μ H ρ σ ∧ ex F w st ρ S = some (o, S') ∧ OutOk K S μ H D σ o S'
def tSs (K : PySem.W.Frag) (F : CF) (w : Nat) (ss : Ss) : TS := fun D σ H => ∃ (ρ : Env) (S : Sto) (μ : Mu) (o : Out) (S' : Sto), Good K S μ H ∧ RelS K S μ H ρ σ ∧ exs F w ss ρ S = some (o, S') ∧ OutOk K S μ H D σ o S'
theorem PS.weak {st : Stmt} {t t' : TS} (h : PS X st t) (k : ∀ D σ H, t' D σ H → t D σ H) : PS X st t' := ⟨fun pins s σ H D I q => h.run pins s σ H D I (k D σ H q)⟩
theorem PSs.weak {st : List Stmt} {t t' : TS} (h : PSs X st t) (k : ∀ D σ H, t' D σ H → t D σ H) : PSs X st t' := ⟨fun pins s σ H D I q => h.run pins s σ H D I (k D σ H q)⟩
theorem ss_nil : PSs X [] (tSs X.K F w .nil) := PSs.weak pss_nil fun D σ H ⟨ρ, S, μ, o, S', g, r, q, k⟩ => by
  simp only [exs] at q
  cases q
  exact k σ μ H g (Evo.refl _ _ _) r
theorem ss_cons (h1 : PS X st (tS X.K F w ist)) (h2 : PSs X sts (tSs X.K F w iss)) : PSs X (st :: sts) (tSs X.K F w (.cons ist iss)) := PSs.weak (pss_cons h1 h2) fun D σ H ⟨ρ, S, μ, o, S', g, r, q, k⟩ => by
  simp only [exs] at q
  split at q
  · cases q
  · rename_i ρ1 S1 e1
    exact ⟨ρ, S, μ, .nx ρ1, S1, g, r, e1, fun σ1 μ1 H1 g1 ev1 r1 => ⟨ρ1, S1, μ1, o, S', g1, r1, q, by
      have z := k.trans ev1
      cases o <;> exact z⟩⟩
  · rename_i oo hne e1
    obtain ⟨o1, S1⟩ := oo
    cases q
    refine ⟨ρ, S, μ, o, S', g, r, e1, ?_⟩
    cases o with
    | nx ρ1 => exact absurd rfl (hne ρ1 S')
    | rt d => exact k
    | bk ρ1 => exact k
    | ct ρ1 => exact k
theorem s_pass : PS X (.Pass pos) (tS X.K F w .pass) := PS.weak ps_pass fun D σ H ⟨ρ, S, μ, o, S', g, r, q, k⟩ => by
  simp only [ex] at q
  cases q
  exact k σ μ H g (Evo.refl _ _ _) r
theorem s_brk : PS X (.Break pos) (tS X.K F w .brk) := PS.weak ps_break fun D σ H ⟨ρ, S, μ, o, S', g, r, q, k⟩ => by
  simp only [ex] at q
  cases q
  exact k σ μ H g (Evo.refl _ _ _) r
theorem s_cnt : PS X (.Continue pos) (tS X.K F w .cnt) := PS.weak ps_continue fun D σ H ⟨ρ, S, μ, o, S', g, r, q, k⟩ => by
  simp only [ex] at q
  cases q
  exact k σ μ H g (Evo.refl _ _ _) r
theorem s_never : PS X st (tS X.K F w .never) := PS.weak ps_never fun D σ H ⟨ρ, S, μ, o, S', g, r, q, k⟩ => by
  simp only [ex] at q
  cases q
theorem s_ex (he : PE X e (tE X.K F ie)) (hs : swapsWith e none pos.line X.env = pure false := by rfl) : PS X (.Expr e pos) (tS X.K F w (.ex ie)) := PS.weak (ps_expr he hs) fun D σ H ⟨ρ, S, μ, o, S', g, r, q, k⟩ => by
  simp only [ex] at q
  split at q
  · cases q
  · rename_i x S1 e1
    cases q
    exact ⟨ρ, S, μ, x, _, g, r, e1, fun v μ1 H1 g1 ev1 rv => k σ μ1 H1 g1 ev1 (r.mono g ev1.w)⟩
theorem s_ret (he : PE X e (tE X.K F ie)) : PS X (.Return (some e) pos) (tS X.K F w (.ret ie)) := PS.weak (ps_ret he) fun D σ H ⟨ρ, S, μ, o, S', g, r, q, k⟩ => by
  simp only [ex] at q
  split at q
  · cases q
  · rename_i x S1 e1
    cases q
    exact ⟨ρ, S, μ, x, _, g, r, e1, fun v μ1 H1 g1 ev1 rv => k v μ1 H1 g1 ev1 rv⟩
theorem s_if (hc : PT X c (tT X.K F ic)) (ha : PSs X sts (tSs X.K F w iss)) {sts2 : List Stmt} (hb : PSs X sts2 (tSs X.K F w its)) : PS X (.If c sts sts2 pos) (tS X.K F w (.ifs ic iss its)) := PS.weak (ps_if hc ha hb) fun D σ H ⟨ρ, S, μ, o, S', g, r, q, k⟩ => by
  simp only [ex] at q
  split at q
  · rename_i S1 e1
    exact ⟨ρ, S, μ, true, S1, g, r, e1, fun μ1 H1 g1 ev1 => by
      show (if true = true then _ else _)
      rw [if_pos rfl]
      exact ⟨ρ, S1, μ1, o, S', g1, r.mono g ev1.w, q, by have z := k.trans ev1; cases o <;> exact z⟩⟩
  · rename_i S1 e1
    exact ⟨ρ, S, μ, false, S1, g, r, e1, fun μ1 H1 g1 ev1 => by
      show (if false = true then _ else _)
      rw [if_neg Bool.false_ne_true]
      exact ⟨ρ, S1, μ1, o, S', g1, r.mono g ev1.w, q, by have z := k.trans ev1; cases o <;> exact z⟩⟩
  · cases q
theorem asg_read {t : Tg} {K : PySem.W.Frag} {D : Ends} {σ : L2.St} {H : Hp} (h : tS K F w (.asg t ie) D σ H) : tAsg (tE K F ie) (gT K t) D σ H := by
  obtain ⟨ρ, S, μ, o, S', g, r, q, k⟩ := h
  simp only [ex] at q
  split at q
  · cases q
  · rename_i x S1 e1
    split at q
    · cases q
    · rename_i ρ' st
      cases q
      exact ⟨ρ, S, μ, x, _, g, r, e1, fun v μ1 H1 g1 ev1 rv => ⟨x, ρ, ρ', _, μ1, g1, r.mono g ev1.w, rv, st, fun σ' r' _ _ => k σ' μ1 H1 g1 ev1 r'⟩⟩
theorem s_set {i : Nat} {x : Str} {pos' : Pos} (ok : Cok X) (hi : X.N[i]? = some x) (hx : Loc X.env.scope x) (he : PE X e (tE X.K F ie)) (hs : swapsWith e (some (.Name x pos')) pos.line X.env = pure false := by rfl) (hf : X.fn x = true ∨ X.env.scope.names.lookup x = some .local := by first | exact .inl rfl | exact .inr rfl | assumption) :
    PS X (.Assign [.Name x pos'] e pos) (tS X.K F w (.asg (.n i) ie)) := PS.weak (ps_set ok.nd hi hx he hs hf) fun D σ H h => by
  obtain ⟨ρ, S, μ, d, S', g, r, q, k⟩ := asg_read h
  exact ⟨ρ, S, μ, d, S', g, r, q, fun v μ1 H1 g1 e1 rv => by
    obtain ⟨d2, ρ2, ρ3, S2, μ2, g2, r2, rv2, st2, k2⟩ := k v μ1 H1 g1 e1 rv
    cases st2
    exact k2 _ (r2.set i rv2) (by rw [List.length_set]) fun j hj => List.getElem?_set_ne (by intro z; exact hj (by simp [slotsT, z]))⟩
theorem s_asg {t : Tg} (he : PE X e (tE X.K F ie)) (hg : PG X tg (gT X.K t)) (hs : swapsWithSole [tg] e pos.line X.env = pure false := by rfl) (hw : swappedStores [tg] e X.env = pure none := by rfl)
    (h1 : (assignEach [tg] X.env).map (·.2) = [assign tg X.env] := by rfl) : PS X (.Assign [tg] e pos) (tS X.K F w (.asg t ie)) := PS.weak (ps_asg he hg hs hw h1) fun D σ H h => asg_read h
/-- name = [..] on one line -/
theorem s_setLc {i : Nat} {y : Str} {py spos : Pos} {mt : Bool} {t : Tg} {elt iter : Expr} {scope : Scope} {own : List (Str × Nat)} (ok : Cok X) (hy : X.N[i]? = some y) (hyl : X.env.scope.names.lookup y = some .local)
    (hsw : swapsWith (.ListComp elt [⟨tg, iter, [], 0⟩] scope pos) (some (.Name y py)) spos.line X.env = pure true) (hs : own.map (·.2) = slotsT t) (hi : PI X tg iter (tI X.K F ia)) (bk : BlkOk X.N X.env.scope scope own)
    (hg : ∀ s H C cl fp, PG (Blk X scope s H C cl fp) tg (gT X.K t)) (he : ∀ s H C cl fp, PE (Blk X scope s H C cl fp) elt (tE X.K F ie)) (hf : ∀ x, foldedSetIterable iter X.env x = pure x := by intro _; rfl) :
    PS X (.Assign [.Name y py] (.ListComp elt [⟨tg, iter, [], 0⟩] scope pos) spos) (tS X.K F w (.asg (.n i) (.comp mt t ia ie))) :=
  PS.weak (ps_setLc ok.calm ok.nd hy hyl hsw hi bk hg (fun _ _ _ _ _ => pts_nil) he hf) fun D σ H h => by
    rw [hs]
    obtain ⟨ρ, S, μ, d, S', g, r, q, k⟩ := asg_read h
    exact lc_plain ⟨ρ, S, μ, d, S', g, r, q, fun v μ1 H1 g1 e1 rv => by
      obtain ⟨d2, ρ2, ρ3, S2, μ2, g2, r2, rv2, st2, k2⟩ := k v μ1 H1 g1 e1 rv
      cases st2
      exact k2 _ (r2.set i rv2) (by rw [List.length_set]) fun j hj => List.getElem?_set_ne (by intro z; exact hj (by simp [slotsT, z]))⟩
theorem s_setLcI {i : Nat} {y : Str} {py spos : Pos} {mt : Bool} {t : Tg} {elt iter : Expr} {scope : Scope} {own : List (Str × Nat)} (ok : Cok X) (hy : X.N[i]? = some y) (hyl : X.env.scope.names.lookup y = some .local)
    (hsw : swapsWith (.ListComp elt [⟨tg, iter, [c], 0⟩] scope pos) (some (.Name y py)) spos.line X.env = pure true) (hs : own.map (·.2) = slotsT t) (hi : PI X tg iter (tI X.K F ia)) (bk : BlkOk X.N X.env.scope scope own)
    (hg : ∀ s H C cl fp, PG (Blk X scope s H C cl fp) tg (gT X.K t)) (hc : ∀ s H C cl fp, PT (Blk X scope s H C cl fp) c (tT X.K F ic)) (he : ∀ s H C cl fp, PE (Blk X scope s H C cl fp) elt (tE X.K F ie)) (hf : ∀ x, foldedSetIterable iter X.env x = pure x := by intro _; rfl) :
    PS X (.Assign [.Name y py] (.ListComp elt [⟨tg, iter, [c], 0⟩] scope pos) spos) (tS X.K F w (.asg (.n i) (.compI mt t ia ic ie))) :=
  PS.weak (ps_setLc ok.calm ok.nd hy hyl hsw hi bk hg (fun s H C cl fp => pts_one (hc s H C cl fp)) he hf) fun D σ H h => by
    rw [hs]
    obtain ⟨ρ, S, μ, d, S', g, r, q, k⟩ := asg_read h
    exact lc_if ⟨ρ, S, μ, d, S', g, r, q, fun v μ1 H1 g1 e1 rv => by
      obtain ⟨d2, ρ2, ρ3, S2, μ2, g2, r2, rv2, st2, k2⟩ := k v μ1 H1 g1 e1 rv
      cases st2
      exact k2 _ (r2.set i rv2) (by rw [List.length_set]) fun j hj => List.getElem?_set_ne (by intro z; exact hj (by simp [slotsT, z]))⟩
/-- a, b = x, y -/
theorem s_par2 {i j : Nat} {x y : Str} {px py pt : Pos} {kt k2 : Nat} {pt2 : Pos} (ok : Cok X) (hi : X.N[i]? = some x) (hj : X.N[j]? = some y) (hij : i ≠ j) (hx : X.env.scope.names.lookup x = some .local) (hy : X.env.scope.names.lookup y = some .local) (ha : PA X [a, b] (tA X.K F ies))
    (hw : swappedStores [.Tuple [.Name x px, .Name y py] kt pt] (.Tuple [a, b] k2 pt2) X.env = pure (some [x, y])) (hs : swapsWithSole [.Tuple [.Name x px, .Name y py] kt pt] (.Tuple [a, b] k2 pt2) pos.line X.env = pure false := by rfl) :
    PS X (.Assign [.Tuple [.Name x px, .Name y py] kt pt] (.Tuple [a, b] k2 pt2) pos) (tS X.K F w (.par [i, j] ies)) := PS.weak (ps_par ok.calm ok.nd hi hj hij hx hy ha hw hs) fun D σ H ⟨ρ, S, μ, o, S', g, r, q, k⟩ => by
  simp only [ex] at q
  split at q
  · cases q
  · rename_i xs S1 e1
    split at q
    · rename_i hl
      cases q
      match xs, hl with
      | [x1, x2], _ =>
        exact ⟨ρ, S, μ, _, _, g, r, e1, fun vs μ1 H1 g1 ev1 rv => by
          obtain ⟨v, ws, rfl, hv, hw⟩ := rv
          obtain ⟨w, rfl, hw2⟩ := reps1 hw
          exact ⟨v, w, rfl, k _ μ1 H1 g1 ev1 (((r.mono g ev1.w).set i hv).set j hw2)⟩⟩
    · cases q
theorem s_par3 {i j l : Nat} {x y z : Str} {px py pz pt : Pos} {kt k2 : Nat} {pt2 : Pos} (ok : Cok X) (hi : X.N[i]? = some x) (hj : X.N[j]? = some y) (hl : X.N[l]? = some z) (hij : i ≠ j) (hil : i ≠ l) (hjl : j ≠ l) (hx : X.env.scope.names.lookup x = some .local) (hy : X.env.scope.names.lookup y = some .local) (hz : X.env.scope.names.lookup z = some .local)
    (ha : PA X [a, b, c] (tA X.K F ies)) (hw : swappedStores [.Tuple [.Name x px, .Name y py, .Name z pz] kt pt] (.Tuple [a, b, c] k2 pt2) X.env = pure (some [x, y, z])) (hs : swapsWithSole [.Tuple [.Name x px, .Name y py, .Name z pz] kt pt] (.Tuple [a, b, c] k2 pt2) pos.line X.env = pure false := by rfl) :
    PS X (.Assign [.Tuple [.Name x px, .Name y py, .Name z pz] kt pt] (.Tuple [a, b, c] k2 pt2) pos) (tS X.K F w (.par [i, j, l] ies)) := PS.weak (ps_par3 ok.calm ok.nd hi hj hl hij hil hjl hx hy hz ha hw hs) fun D σ H ⟨ρ, S, μ, o, S', g, r, q, k⟩ => by
  simp only [ex] at q
  split at q
  · cases q
  · rename_i xs S1 e1
    split at q
    · rename_i hl
      cases q
      match xs, hl with
      | [x1, x2, x3], _ =>
        exact ⟨ρ, S, μ, _, _, g, r, e1, fun vs μ1 H1 g1 ev1 rv => by
          obtain ⟨v, ws, rfl, hv, hw⟩ := rv
          obtain ⟨w, us, rfl, hw1, hw2⟩ := hw
          obtain ⟨u, rfl, hu⟩ := reps1 hw2
          exact ⟨v, w, u, rfl, k _ μ1 H1 g1 ev1 ((((r.mono g ev1.w).set i hv).set j hw1).set l hu)⟩⟩
    · cases q
/-- o[i] = e -/
theorem s_put {sp : Pos} (ho : PE X a (tE X.K F ia)) (hi : PE X b (tE X.K F ib)) (he : PE X e (tE X.K F ie))
    (ha : ∀ v, assign (.Subscript a b sp) X.env v = (do
      let ov ← holding [v] (eval a X.env)
      let iv ← holding [v, ov] (eval b X.env)
      standAt sp
      holding [v, ov, iv] (setItem ov iv v)
      release [v, ov, iv] []) := by intro _; rfl)
    (hs : swapsWithSole [.Subscript a b sp] e pos.line X.env = pure false := by rfl) (hw : swappedStores [.Subscript a b sp] e X.env = pure none := by rfl)
    (h1 : (assignEach [.Subscript a b sp] X.env).map (·.2) = [assign (.Subscript a b sp) X.env] := by rfl) : PS X (.Assign [.Subscript a b sp] e pos) (tS X.K F w (.put ia ib ie)) :=
  PS.weak (ps_asg he (pg_sub ho hi set_list ha) hs hw h1) fun D σ H ⟨ρ, S, μ, o, S', g, r, q, k⟩ => by
    simp only [ex] at q
    split at q
    · cases q
    · rename_i x S1 e1
      split at q
      · rename_i l S2 e2
        split at q
        · rename_i kk S3 e3
          split at q
          · rename_i xs hS
            split at q
            · rename_i j hj
              split at q
              · rename_i hp
                cases q
                refine ⟨ρ, S, μ, x, S1, g, r, e1, fun v μ1 H1 g1 ev1 rv => ⟨ρ, S1, μ1, _, S2, g1, r.mono g ev1.w, e2, fun ov μ2 H2 g2 ev2 ro => ⟨ρ, S2, μ2, _, S3, g2, r.mono g (ev1.trans ev2).w, e3, fun iv μ3 H3 g3 ev3 ri => ?_⟩⟩⟩
                obtain ⟨p, rfl, mp⟩ := ro.mono g2 ev3.w
                obtain ⟨p2, vs, mp2, hH, rr⟩ := g3.at_ _ _ hS
                rw [mp] at mp2; cases mp2
                cases (show iv = V.int kk from ri)
                have ev12 := ev1.trans (ev2.trans ev3)
                have hp4 := evo_put (o := .lst (vs.set j v)) (ys := xs.set j x) g3 hS mp
                have g4 := good_put g3 hS mp (Reps.set ((rv.mono g1 (ev2.trans ev3).w)) j rr) (pures_set (g3.pur _ _ hS) hp)
                exact ⟨p, vs, kk, j, rfl, rfl, hH, by rw [← rr.length]; exact hj, k σ μ3 _ g4 (ev12.trans hp4) (r.mono g (ev12.trans hp4).w)⟩
              · cases q
            · cases q
          · cases q
        · cases q
      · cases q

theorem s_for {t : Tg} {iter : Expr} (ok : Cok X) (hp : PassesOwn (model X.prog X.w) X.A X.env X.xe) (hi : PI X tg iter (tI X.K F ia)) (hg : PG X tg (gT X.K t)) (hb : PSs X sts (tSs X.K F w iss)) (hf : ∀ x, foldedSetIterable iter X.env x = pure x := by intro _; rfl) :
    PS X (.For tg iter sts [] pos) (tS X.K F w (.for t ia iss)) := PS.weak (ps_for hp ok.calm hi hg hb hf) fun D σ H ⟨ρ, S, μ, o, S', g, r, q, k⟩ => by
  simp only [ex] at q
  split at q
  · cases q
  · rename_i x S1 e1
    split at q
    · cases q
    · rename_i xs hx
      refine ⟨ρ, S, μ, x, S1, xs, g, r, e1, hx, fun J μ1 H1 g1 ev1 W => ?_⟩
      refine ⟨fun i m σ2 H2 => m = xs.length - i ∧ i ≤ xs.length ∧ ∃ (ρ2 : Env) (S2 : Sto) (μ2 : Mu), Good X.K S2 μ2 H2 ∧ Evo S1 μ1 H1 S2 μ2 H2 ∧ RelS X.K S2 μ2 H2 ρ2 σ2 ∧ forRun t (fun ρ S => exs F w iss ρ S) (xs.drop i) ρ2 S2 = some (o, S'),
        ⟨xs.length, by simp, Nat.zero_le _, ρ, S1, μ1, g1, Evo.refl _ _ _, r.mono g ev1.w, q⟩, ?_⟩
      rintro i m σ2 H2 ⟨rfl, hi, ρ2, S2, μ2, g2, ev2, r2, ec⟩
      obtain ⟨go, stop, yl⟩ := W S2 μ2 H2 g2 ev2.w
      by_cases hlt : i < xs.length
      · refine .inr ⟨go i hlt, _, fun σ' H' h' => ⟨xs.length - (i + 1), by omega, h'⟩, fun v H4 hy => ?_⟩
        obtain ⟨dd, hdd, g4, e4, r4⟩ := yl i v H4 hlt hy
        have edrop : xs.drop i = dd :: xs.drop (i + 1) := by
          rw [List.drop_eq_getElem_cons hlt]
          rw [List.getElem?_eq_getElem hlt] at hdd
          cases hdd
          rfl
        rw [edrop] at ec
        unfold forRun at ec
        split at ec
        · cases ec
        · rename_i ρ3 st
          refine ⟨dd, ρ2, ρ3, S2, μ2, g4, r2.mono g2 e4.w, r4, st, fun σ3 r3 _ _ => ?_⟩
          have ev24 := ev2.trans e4
          split at ec
          · cases ec
          · rename_i ρ4 S4 eb
            exact ⟨ρ3, S2, μ2, _, S4, g4, r3, eb, fun σ5 μ5 H5 g5 ev5 r5 => ⟨rfl, hlt, ρ4, S4, μ5, g5, ev24.trans ev5, r5, ec⟩⟩
          · rename_i ρ4 S4 eb
            exact ⟨ρ3, S2, μ2, _, S4, g4, r3, eb, fun σ5 μ5 H5 g5 ev5 r5 => ⟨rfl, hlt, ρ4, S4, μ5, g5, ev24.trans ev5, r5, ec⟩⟩
          · rename_i ρ4 S4 eb
            cases ec
            exact ⟨ρ3, S2, μ2, _, _, g4, r3, eb, fun σ5 μ5 H5 g5 ev5 r5 => k σ5 μ5 H5 g5 (ev1.trans (ev24.trans ev5)) r5⟩
          · rename_i d4 S4 eb
            cases ec
            exact ⟨ρ3, S2, μ2, _, _, g4, r3, eb, fun v5 μ5 H5 g5 ev5 r5 => k v5 μ5 H5 g5 (ev1.trans (ev24.trans ev5)) r5⟩
      · have hi' : i = xs.length := by omega
        subst hi'
        rw [List.drop_length] at ec
        unfold forRun at ec
        cases ec
        exact .inl ⟨stop, k σ2 μ2 H2 g2 (ev1.trans ev2) r2⟩
theorem s_wh (hp : PassesOwn (model X.prog X.w) X.A X.env X.xe) (hc : PT X c (tT X.K F ic)) (hb : PSs X sts (tSs X.K F w iss)) : PS X (.While c sts [] pos) (tS X.K F w (.wh ic iss)) := PS.weak (ps_while hp hc hb) fun D σ H ⟨ρ, S, μ, o, S', g, r, q, k⟩ => by
  simp only [ex] at q
  refine ⟨fun m σ2 H2 => ∃ (ρ2 : Env) (S2 : Sto) (μ2 : Mu), Good X.K S2 μ2 H2 ∧ Evo S μ H S2 μ2 H2 ∧ RelS X.K S2 μ2 H2 ρ2 σ2 ∧ whRun (fun ρ S => ev F ic ρ S) (fun ρ S => exs F w iss ρ S) m ρ2 S2 = some (o, S'), ⟨w, ρ, S, μ, g, Evo.refl _ _ _, r, q⟩, ?_⟩
  rintro m σ2 H2 ⟨ρ2, S2, μ2, g2, ev2, r2, ec⟩
  cases m with
  | zero => cases ec
  | succ m =>
    unfold whRun at ec
    split at ec
    · rename_i S3 et
      cases ec
      exact ⟨ρ2, S2, μ2, false, _, g2, r2, et, fun μ3 H3 g3 ev3 => by
        show (if false = true then _ else _)
        rw [if_neg Bool.false_ne_true]
        exact k σ2 μ3 H3 g3 (ev2.trans ev3) (r2.mono g2 ev3.w)⟩
    · rename_i S3 et
      refine ⟨ρ2, S2, μ2, true, S3, g2, r2, et, fun μ3 H3 g3 ev3 => ?_⟩
      show (if true = true then _ else _)
      rw [if_pos rfl]
      refine ⟨_, fun σ' H' h' => ⟨m, Nat.lt_succ_self m, h'⟩, ?_⟩
      have ev23 := ev2.trans ev3
      have r3 := r2.mono g2 ev3.w
      split at ec
      · cases ec
      · rename_i ρ4 S4 eb
        exact ⟨ρ2, S3, μ3, _, S4, g3, r3, eb, fun σ5 μ5 H5 g5 ev5 r5 => ⟨ρ4, S4, μ5, g5, ev23.trans ev5, r5, ec⟩⟩
      · rename_i ρ4 S4 eb
        exact ⟨ρ2, S3, μ3, _, S4, g3, r3, eb, fun σ5 μ5 H5 g5 ev5 r5 => ⟨ρ4, S4, μ5, g5, ev23.trans ev5, r5, ec⟩⟩
      · rename_i ρ4 S4 eb
        cases ec
        exact ⟨ρ2, S3, μ3, _, _, g3, r3, eb, fun σ5 μ5 H5 g5 ev5 r5 => k σ5 μ5 H5 g5 (ev23.trans ev5) r5⟩
      · rename_i d4 S4 eb
        cases ec
        exact ⟨ρ2, S3, μ3, _, _, g3, r3, eb, fun v5 μ5 H5 g5 ev5 r5 => k v5 μ5 H5 g5 (ev23.trans ev5) r5⟩
    · cases ec
end
end Iv

set_option Elab.async false
set_option linter.all false
set_option maxRecDepth 100000
set_option maxHeartbeats 1000000
namespace Iv
open PySem PySem.Spec PyProof.Rows L2

/-- the code of a def, at its entry -/
abbrev BodyX (P : Program) (w : World) (K : PySem.W.Frag) (mg : Str → Option Value) (base : Heap) (N : List Str) (qual : Str) (scope : Scope) (f : Addr) (cdv : Value) (A : Around) (outer : List PySem.Env) (s : Shared) (H : Hp) : Cx := (cxOf L2.CX0 P w K mg base N qual scope f cdv A outer s H L2.E0).nox
section
variable {P : Program} {w : World} {K : PySem.W.Frag} {mg : Str → Option Value} {base : Heap}
/-- a def keeps what the evaluation of its body says -/
theorem fnI_of {T : List Fn} {wh k fi : Nat} {fn : Fn} {f : Addr} {fd : FuncData} {x qual : Str} {params : Arguments} {body : List Stmt} {scope : Scope} {N ps : List Str} (FD : FunD K x qual params body scope [] [] f fd) (sc : FnScope N ps scope) (hT : T[fi]? = some fn) (har : fn.ar = ps.length) (hsl : fn.sl = N.length)
    (hbody : ∀ cdv A outer s H, Room k (A.deeper (envOfC qual scope s.heap.objs.size f cdv)) → Cok (BodyX P w K mg base N qual scope f cdv A outer s H) → PSs (BodyX P w K mg base N qual scope f cdv A outer s H) body (tSs K (run T wh k) wh fn.body)) :
    FnI P w K mg base (k + 1) f fd ps (spI K (run T wh (k + 1)) fn.ar fi) := by
  obtain ⟨oc, od, dV, kV, doc, pm, an, cdv, ct, osl, rfl, lk, hcd, _, _⟩ := FD.ex
  have hlen : ∀ vs H Q, spI K (run T wh (k + 1)) fn.ar fi vs H Q → vs.length = ps.length := fun vs H Q ⟨S, μ, ds, d, S', g, rv, hl, _⟩ => by rw [← rv.length, hl, har]
  refine ⟨hlen, fun A outer s H args us vs Q hr hgd e0 hb r hsp => ?_⟩
  have hl := hlen _ _ _ hsp
  have inBase : ∀ b o, base.get? b = some o → s.heap.get? b = some o := fun b o q => (e0.bs b o q).1
  have KX : K.In s.heap := e0.mod.kin.keeps inBase
  have lim : s.heap.NoLimit := e0.mod.nolimit.keeps inBase
  have hkind : ∀ y ∈ ps.zip us, scope.names.lookup y.1 = some .local ∨ (scope.names.lookup y.1 = some .cell ∧ ((cellsFrom (s.heap.objs.size + 1) scope.names []).lookup y.1).isSome = true) := by
    rintro ⟨n, v⟩ hy
    have hn := (List.of_mem_zip hy).1
    rcases sc.par n hn with z | z
    · exact .inl z
    · exact .inr ⟨z, PySem.W.cellsFrom_some _ _ _ (.inl z)⟩
  refine codeAny_call_function hr.depth (KX _ _ lk) rfl sc.co sc.gen rfl (PySem.W.codeRec_of KX hcd) (hb _ _ _ _ ?_)
  refine wpAny_newFunctionEnv_cells sc.kind hkind fun env he s1 entry => ?_
  cases he
  refine ⟨lim.keeps entry.toInCall.keep, codeAny_func ?_⟩
  have hroom : Room k (A.deeper (envOfC qual scope s.heap.objs.size f cdv)) := hr.deeper _
  have ok : Cok (BodyX P w K mg base N qual scope f cdv A outer s H) := ⟨sc.nd, rfl, hgd, by have := hr.un; show A.units + 3 + 200 < cLine; omega⟩
  have I : Inv (cxOf L2.CX0 P w K mg base N qual scope f cdv A outer s H L2.E0) [] (L2.start N vs) H s1 := inv_start sc hr.hd e0 hl r entry
  obtain ⟨S, μ, ds, d, S', g, rv, hd, q, kk⟩ := hsp
  -- the slots at the entry
  have rel : RelS K S μ H (ds.map some ++ List.replicate (fn.sl - fn.ar) none) (L2.start N vs) := by
    refine ⟨by unfold L2.start; rw [List.length_append, List.length_append, List.length_map, List.length_map, List.length_replicate, List.length_replicate, hsl, har, hl, ← hl, ← rv.length], fun i c hc => ?_⟩
    by_cases hi : i < ds.length
    · rw [List.getElem?_append_left (by rw [List.length_map]; exact hi), List.getElem?_map] at hc
      cases e : ds[i]? with
      | none => rw [e] at hc; cases hc
      | some c' =>
        rw [e] at hc
        cases hc
        obtain ⟨v, h1, h2⟩ := rv.get e
        refine ⟨v, ?_, h2⟩
        unfold L2.start
        rw [List.getElem?_append_left (by rw [List.length_map, ← rv.length]; exact hi), List.getElem?_map, h1]
        rfl
    · rw [List.getElem?_append_right (by rw [List.length_map]; omega), List.getElem?_replicate] at hc
      split at hc
      · cases hc
      · cases hc
  have q1 : ∃ o S1, exs (run T wh k) wh fn.body (ds.map some ++ List.replicate (fn.sl - fn.ar) none) S = some (o, S1) ∧ ((∃ ρ, o = .nx ρ ∧ d = .non ∧ S' = leave S.length .non S1) ∨ (o = .rt d ∧ S' = leave S.length d S1)) := by
    unfold run at q
    simp only [hT] at q
    rw [if_pos hd] at q
    split at q
    · rename_i d1 S1 e1
      cases q
      exact ⟨_, _, e1, .inr ⟨rfl, rfl⟩⟩
    · rename_i ρ1 S1 e1
      cases q
      exact ⟨_, _, e1, .inl ⟨_, rfl, rfl, rfl⟩⟩
    · cases q
  obtain ⟨o, S1, e1, ends⟩ := q1
  -- what is forgotten at the end
  have fin : ∀ (c : D) (v : V) (μ1 : Mu) (H1 : Hp), d = c → S' = leave S.length c S1 → Good K S1 μ1 H1 → Evo S μ H S1 μ1 H1 → Rep K S1 μ1 H1 c v → Q v H1 := by
    intro c v μ1 H1 hc hS g1 ev1 rv1
    subst hc
    unfold leave at hS
    split at hS
    · rename_i hp
      subst hS
      exact kk v (μ1.take S.length) H1 (good_take g1 _) (evo_take g.len.symm ev1) (Rep.forget (fun a l => live_take l) hp rv1)
    · subst hS
      exact kk v μ1 H1 g1 ev1 rv1
  have hbod := hbody cdv A outer s H hroom ok
  refine wpAny_mono (hbod.run [] s1 (L2.start N vs) H { nx := fun _ H' => Q .non H', rt := Q } (I.wish _) ⟨_, S, μ, o, S1, g, rel, e1, ?_⟩) (fun fl s' hs => ?_) fun e s' hs => False.elim hs
  · rcases ends with ⟨ρ1, rfl, rfl, hS⟩ | ⟨rfl, hS⟩
    · exact fun σ' μ' H' g' e' _ => fin .non .non μ' H' rfl hS g' e' rfl
    · exact fun v μ' H' g' e' rv' => fin d v μ' H' rfl hS g' e' rv'
  · have fin2 : ∀ {σ' : L2.St} {H' : Hp} {v : V} {u : Value}, Inv (cxOf L2.CX0 P w K mg base N qual scope f cdv A outer s H L2.E0) [] σ' H' s' → RelV v u → Q v H' → CE outer P w H s Q u s' :=
      fun J rv q => ⟨_, _, J.os, J.bare, J.base, J.hok, rv, q⟩
    have hs' := hs.unwish
    cases fl with
    | ret u =>
      obtain ⟨v, σ', H', J, rv', q'⟩ := hs'
      exact fin2 J rv' q'
    | next =>
      obtain ⟨σ', H', J, q'⟩ := hs'
      exact fin2 (v := V.non) (u := Value.none) J rfl q'
    | brk =>
      obtain ⟨_, _, _, q'⟩ := hs'
      exact False.elim q'
    | cont =>
      obtain ⟨_, _, _, q'⟩ := hs'
      exact False.elim q'
theorem run_ar {T : List Fn} {wh n fi : Nat} {fn : Fn} (hT : T[fi]? = some fn) : ∀ ds S r, run T wh n fi ds S = some r → ds.length = fn.ar := by
  intro ds S r h
  cases n with
  | zero => cases h
  | succ n =>
    unfold run at h
    simp only [hT] at h
    split at h
    · rename_i e
      exact e
    · cases h
end
structure DefI where
  name : Str
  ps : List Str
  N : List Str
  fn : Fn
  params : Arguments
  body : List Stmt
  scope : Scope
/-- what the top has left -/
structure TopOk (K : PySem.W.Frag) (mg : Str → Option Value) (Ds : List DefI) : Prop where
  dfn : ∀ (i : Nat) (d : DefI), Ds[i]? = some d → ∃ f fd, mg d.name = some (.ref f) ∧ FunD K d.name d.name d.params d.body d.scope [] [] f fd ∧ Binds K fd d.ps []
  sc : ∀ (i : Nat) (d : DefI), Ds[i]? = some d → FnScope d.N d.ps d.scope ∧ d.fn.ar = d.ps.length ∧ d.fn.sl = d.N.length
abbrev Fns (Ds : List DefI) : List Fn := Ds.map (·.fn)
/-- keywords bind so -/
def KwOk (d : DefI) (n : Nat) (ks : List Str) (pm : List Nat) : Prop := ∀ (kV doc pmv : Value) (an : Option Addr) (cdv ct : Value) (us ws : List Value), us.length = n → ws.length = ks.length →
  bindArgs (PySem.W.fnOf d.name d.name d.params d.body d.scope .none kV doc pmv an cdv ct) ⟨us, ks.zip ws⟩ = pure (d.ps.zip (prm pm (us ++ ws)))
/-- what a body may lean on -/
structure BodyOk (X : Cx) (Ds : List DefI) (wh k : Nat) : Prop where
  ok : Cok X
  call : ∀ (i : Nat) (d : DefI), Ds[i]? = some d → CallOk X (run (Fns Ds) wh k) i d.fn.ar d.name
  callK : ∀ (i : Nat) (d : DefI) (n : Nat) (ks : List Str) (pm : List Nat), Ds[i]? = some d → KwOk d n ks pm → CallKOk X (run (Fns Ds) wh k) i d.fn.ar d.name n ks pm
section
variable {P : Program} {w : World} {K : PySem.W.Frag} {mg : Str → Option Value} {base : Heap}
theorem fns_get {Ds : List DefI} {i : Nat} {d : DefI} (h : Ds[i]? = some d) : (Fns Ds)[i]? = some d.fn := by rw [List.getElem?_map, h]; rfl
theorem all_fnI {Ds : List DefI} {wh : Nat} (T : TopOk K mg Ds)
    (bodies : ∀ (i : Nat) (d : DefI), Ds[i]? = some d → ∀ k f cdv A outer s H, BodyOk (BodyX P w K mg base d.N d.name d.scope f cdv A outer s H) Ds wh k → PSs (BodyX P w K mg base d.N d.name d.scope f cdv A outer s H) d.body (tSs K (run (Fns Ds) wh k) wh d.fn.body)) :
    ∀ (k : Nat) (i : Nat) (d : DefI) f fd, Ds[i]? = some d → mg d.name = some (.ref f) → FunD K d.name d.name d.params d.body d.scope [] [] f fd → FnI P w K mg base k f fd d.ps (spI K (run (Fns Ds) wh k) d.fn.ar i) := by
  intro k
  induction k with
  | zero =>
    intro i d f fd hi hm D
    exact ⟨(fun vs H Q h => by obtain ⟨_, _, _, _, _, _, _, _, q, _⟩ := h; cases q), (fun _ _ _ _ _ _ _ _ _ _ _ _ _ h => by obtain ⟨_, _, _, _, _, _, _, _, q, _⟩ := h; cases q)⟩
  | succ k ih =>
    intro i d f fd hi hm D
    obtain ⟨s1, s2, s3⟩ := T.sc i d hi
    refine fnI_of D s1 (fns_get hi) s2 s3 fun cdv A outer s H hr ok => bodies i d hi k f cdv A outer s H ⟨ok, fun j e hj => ?_, fun j e n ks pm hj hkw => ?_⟩
    · obtain ⟨f2, fd2, hm2, D2, hb2⟩ := T.dfn j e hj
      exact ⟨run_ar (fns_get hj), f2, fd2, e.ps, k, hm2, D2.kp, hb2, hr, ih j e f2 fd2 hj hm2 D2⟩
    · obtain ⟨f2, fd2, hm2, D2, hb2⟩ := T.dfn j e hj
      refine ⟨run_ar (fns_get hj), f2, fd2, e.ps, k, hm2, D2.kp, fun s us ws h1 h2 => ?_, hr, ih j e f2 fd2 hj hm2 D2⟩
      obtain ⟨oc, od, dV, kV, doc, pmv, an, cdv2, ct, osl, rfl, lk, hcd, hD, hK⟩ := D2.ex
      rcases hD with ⟨_, rfl⟩ | ⟨z, _⟩
      · exact .of_eq (hkw kV doc pmv an cdv2 ct us ws h1 h2)
      · exact absurd rfl z
end

theorem law_I {P : Program} {w : World} {K : PySem.W.Frag} {mg mb : Str → Option Value} {k fi : Nat} {F : CF} {fa a : Addr} {fd : FuncData} {x : Str} {s1 : Shared} {vs : List Value} {ns : List Int}
    (KX : K.In s1.heap) (hns : s1.heap.Ns mainGlobals mg) (hb : s1.heap.Ns builtinsNs mb) (hbb : ∀ x : Str, x ≠ "__name__" → mb x = bootBuiltins x) (hlim : s1.heap.NoLimit) (hg : s1.gens = #[])
    (ha : s1.heap.get? a = some { cls := .type "list", data := .seq vs.toArray }) (hi : IntsAre vs ns) (hl : ns.length ≤ sizeLine) (hr : Room k callerA)
    (G : ∀ base : Heap, K.In base → base.Ns mainGlobals mg → FnI P w K mg base k fa fd [x] (spI K F 1 fi)) (hbind : ∀ (s : Shared) (u : Value), BindsTo s fd ⟨[u], []⟩ [(x, u)])
    (hrun : ∃ S', F fi [.lst (ns.map D.int)] [] = some (.bl true, S')) :
    codeAny (model P w) callerA (.call (.ref fa) ⟨[.ref a], []⟩) (fun r s' => r = .ok (.ret (.bool true)) ∧ OldK s1.heap s'.heap ∧ s'.os = s1.os ∧ AllBare s'.gens) s1 := by
  have rv := vals_ints hi
  have lenV := hi.length
  have good0 : ∀ H : Hp, Good K [] ⟨[], []⟩ H := fun H => ⟨rfl, fun i xs q => by simp at q, fun i j xs ys a q => by simp at q, fun i xs q => by simp at q, fun a ha => by simp at ha, fun a ha => by simp at ha⟩
  have repsI : ∀ (H : Hp) (ns : List Int), Reps K [] ⟨[], []⟩ H (ns.map D.int) (ns.map V.int) := fun H ns => by
    induction ns with
    | nil => rfl
    | cons n ns ih => exact ⟨_, _, rfl, rfl, ih⟩
  have noLive : ∀ b, ¬ Live [] ⟨[], []⟩ b := fun b l => by
    rcases l with ⟨i, xs, q, _⟩ | l
    · simp at q
    · simp at l
  obtain ⟨S', hrun⟩ := hrun
  have core : ∀ H : Hp, L2.Only H → ((Rd H a (.lst (ns.map V.int)) ∧ ¬ Live [] ⟨[], []⟩ a) ∨ KL K a (ns.map V.int)) → HOk P w H s1.heap → (∀ b, H b ≠ none → b = a) → (H a ≠ none → K.lookup a = none) →
      codeAny (model P w) callerA (.call (.ref fa) ⟨[.ref a], []⟩) (fun r s' => r = .ok (.ret (.bool true)) ∧ OldK s1.heap s'.heap ∧ s'.os = s1.os ∧ AllBare s'.gens) s1 := by
    intro H hO hS hok hA hK
    have dictFree : ∀ {b : Addr} {o : Obj} {es : Array DictEntry} {ep : Nat}, s1.heap.get? b = some o → o.data = .dict es ep → H b = none := by
      intro b o es ep q dd
      cases hb' : H b with
      | none => rfl
      | some u =>
        have eb := hA b (by rw [hb']; simp)
        subst eb
        rw [ha] at q
        cases q
        cases (show Data.seq vs.toArray _ = Data.dict es ep from dd)
    have keepNs : ∀ {b : Addr} {m : Str → Option Value}, s1.heap.Ns b m → (hidT s1.heap H).Ns b m := fun {b m} ⟨o, es, ep, q, dd, r⟩ => ⟨o, es, ep, hidT_get q (dictFree q dd), dd, r⟩
    have keepK : K.In (hidT s1.heap H) := by
      intro b o q
      refine hidT_get (KX b o q) ?_
      cases hb' : H b with
      | none => rfl
      | some u =>
        have eb := hA b (by rw [hb']; simp)
        subst eb
        rw [hK (by rw [hb']; simp)] at q
        cases q
    have hM : Mod K mg (hidT s1.heap H) := ⟨keepK, keepNs hns, ⟨mb, keepNs hb, hbb⟩, let ⟨mc, h1, h2⟩ := hlim; ⟨mc, keepNs h1, h2⟩⟩
    have e0 : Env0 P w K mg (hidT s1.heap H) callerA [] s1 H := ⟨rfl, hM, fun b o q => of_hidT q, Nat.le_of_eq (hidT_size _ _), trivial, fun b hb => by simp [frs] at hb, hok, .of_eq hg⟩
    have hq : spI K F 1 fi [.ref a] H (fun v _ => v = .bl true) := ⟨[], ⟨[], []⟩, [.lst (ns.map D.int)], .bl true, S', good0 H, ⟨.ref a, [], rfl, ⟨a, _, rfl, hS, repsI H ns⟩, rfl⟩, rfl, hrun, fun v μ' H' _ _ rv => rv⟩
    refine codeAny_mono ((G _ keepK (keepNs hns)).run callerA [] s1 H ⟨[.ref a], []⟩ [.ref a] [.ref a] _ hr rfl e0 (hbind s1 (.ref a)) (.cons rfl .nil) hq) fun r s' h => ?_
    cases r with
    | error e => exact False.elim h
    | ok fl =>
      cases fl with
      | next => exact False.elim h
      | brk => exact False.elim h
      | cont => exact False.elim h
      | ret u =>
        obtain ⟨v, H', os, bare, un, hok', r', q⟩ := h
        cases (show v = .bl true from q)
        cases (show u = Value.bool true from r')
        refine ⟨rfl, OldK.of_keep fun b o e => ?_, os, bare⟩
        cases q : H b with
        | none => exact un.keep b o e q (by simp [frs]) (by simp)
        | some u =>
          rcases hO b with z | ⟨ob, xs, z⟩
          · rw [q] at z; cases z
          · obtain ⟨e1, _⟩ := hok b _ z
            obtain ⟨e2, _⟩ := hok' b _ (un.frzs b ob _ z)
            rw [e] at e1; cases e1
            exact e2
  cases hk : K.lookup a with
  | some o =>
    have e := KX a o hk
    rw [ha] at e
    cases e
    exact core (fun _ => none) (fun _ => .inl rfl) (.inr ⟨vs, 0, hk, by rw [lenV]; exact hl, rv⟩) (fun b u z => by cases (show (none : Option HO) = some u from z)) (fun b z => absurd rfl z) fun z => absurd rfl z
  | none =>
    refine core (fun b => if b = a then some (.frz { cls := .type "list", data := .seq vs.toArray } (.lst (ns.map V.int))) else none) (fun b => ?_) (.inl ⟨.inr ⟨{ cls := .type "list", data := .seq vs.toArray }, if_pos rfl⟩, noLive a⟩) (fun b u z => ?_) (fun b z => ?_) fun _ => hk
    · by_cases hb : b = a
      · exact .inr ⟨_, _, if_pos hb⟩
      · exact .inl (if_neg hb)
    · by_cases hb : b = a
      · cases (if_pos hb).symm.trans z
        subst hb
        exact ⟨ha, by rw [List.length_map]; exact hl, vs, _, rv, ha⟩
      · cases (if_neg hb).symm.trans z
    · by_cases hb : b = a
      · exact hb
      · exact absurd (if_neg hb) z
theorem walk_I {l : PySem.W.OpenLaw} {n k fi : Nat} {q : Program} {loose : List Str} {XP : (Str → Option Value) → Heap → Prop} {YP : World → Heap → Prop} {d : DefRec} {F : CF} {x : Str} (hn : l.most = some n) (hn2 : n ≤ sizeLine) (hdf : d.params.defaults = []) (hr : Room k callerA)
    (G : ∀ (w : World) (mg : Str → Option Value) (fa : Addr) (h : Heap), YP w h → h.Ns mainGlobals mg → mg d.name = some (.ref fa) → ∃ (K : PySem.W.Frag) (fd : FuncData), K.In h ∧ (∀ (s : Shared) (u : Value), BindsTo s fd ⟨[u], []⟩ [(x, u)]) ∧
      ∀ base : Heap, K.In base → base.Ns mainGlobals mg → FnI l.prog w K mg base k fa fd [x] (spI K F 1 fi))
    (hrun : ∀ ns : List Int, ns.length ≤ n → ∃ S', F fi [.lst (ns.map D.int)] [] = some (.bl true, S')) : PySem.W.WalkO q loose XP YP l.row.toRowW d [] (fun f vs => PySem.call f vs) := by
  refine Att.attach_call hn hdf fun w s0 s1 mg mb fa o pm cd doc a vs ns Gr Y ho hd hcd hmg hobj hints hlen hg => ?_
  obtain ⟨K, fd, KX, hb, hF⟩ := G w mg fa _ Y Gr.T.g hmg
  exact law_I KX Gr.T.g Gr.T.b Gr.T.builtins Gr.T.nolimit hg hobj hints (Nat.le_trans hlen hn2) hr hF hb (hrun ns hlen)
end Iv

set_option Elab.async false
set_option linter.all false
set_option maxRecDepth 100000
set_option maxHeartbeats 4000000
namespace Iv
open PySem PySem.Spec PyProof.Rows L2
def isSq (nm : String) (nd : Bool) (K : PySem.W.Frag) (a : Addr) : Option (List Value) := match K.lookup a with
  | some ⟨.type c, od, .seq its _, _⟩ => if c = nm ∧ its.size ≤ sizeLine ∧ (nd = true → od = none) then some its.toList else none
  | _ => none
theorem isSq_ok {nm : String} {nd : Bool} {K : PySem.W.Frag} {a : Addr} {us : List Value} (h : isSq nm nd K a = some us) :
    ∃ (o : Obj) (its : Array Value) (n : Nat), K.lookup a = some o ∧ o.cls = .type nm ∧ (nd = true → o.dict = none) ∧ o.data = .seq its n ∧ its.size ≤ sizeLine ∧ its.toList = us := by
  unfold isSq at h
  split at h
  · rename_i c od its m sl q
    split at h
    · rename_i hc
      obtain ⟨h1, h2, h3⟩ := hc
      cases h
      exact ⟨_, its, m, q, congrArg Value.type h1, h3, rfl, h2, rfl⟩
    · cases h
  · cases h
def isLs (K : PySem.W.Frag) (a : Addr) : Option (List Value) := match K.lookup a with
  | some ⟨.type c, none, .seq its _, sl⟩ => if c = "list" ∧ its.size ≤ sizeLine ∧ sl = #[] then some its.toList else none
  | _ => none
theorem isLs_ok {K : PySem.W.Frag} {a : Addr} {us : List Value} (h : isLs K a = some us) : ∃ n, K.lookup a = some { cls := .type "list", data := .seq us.toArray n } ∧ us.length ≤ sizeLine := by
  unfold isLs at h
  split at h
  · rename_i c its m sl q
    split at h
    · rename_i hc
      obtain ⟨h1, h2, h3⟩ := hc
      cases h
      subst h1
      subst h3
      exact ⟨m, by rw [q], by simpa using h2⟩
    · cases h
  · cases h
mutual
def gB (K : PySem.W.Frag) : D → Value → Bool
  | .non, .none => true
  | .bl b, .bool c => decide (b = c)
  | .int i, .int j _ => decide (i = j)
  | .str x, .str y _ => decide (x = y)
  | .tup ds, .ref a => (match isSq "tuple" false K a with
    | some us => gBs K ds us
    | none => false)
  | .lst ds, .ref a => (match isLs K a with
    | some us => gBs K ds us
    | none => false)
  | _, _ => false
def gBs (K : PySem.W.Frag) : List D → List Value → Bool
  | [], [] => true
  | d :: ds, u :: us => gB K d u && gBs K ds us
  | _, _ => false
end
mutual
theorem gB_ok {K : PySem.W.Frag} : ∀ (d : D) (u : Value), gB K d u = true → ∃ v, RelV v u ∧ ∀ S μ H, Rep K S μ H d v
  | .non, .none, _ => ⟨.non, rfl, fun _ _ _ => rfl⟩
  | .bl b, .bool c, h => ⟨.bl b, congrArg Value.bool (of_decide_eq_true h).symm, fun _ _ _ => rfl⟩
  | .int i, .int j t, h => ⟨.int i, ⟨t, by rw [of_decide_eq_true (show decide (i = j) = true from h)]⟩, fun _ _ _ => rfl⟩
  | .str x, .str y t, h => ⟨.str x, ⟨t, by rw [of_decide_eq_true (show decide (x = y) = true from h)]⟩, fun _ _ _ => rfl⟩
  | .tup ds, .ref a, h => by
    simp only [gB] at h
    split at h
    · rename_i us q
      obtain ⟨o, its, n, k1, k2, k3, k4, k5, k6⟩ := isSq_ok q
      obtain ⟨vs, r, s⟩ := gBs_ok ds us h
      exact ⟨.ref a, rfl, fun S μ H => ⟨a, vs, rfl, .inr ⟨o, its, n, k1, k2, k4, k5, by rw [k6]; exact r⟩, s S μ H⟩⟩
    · cases h
  | .lst ds, .ref a, h => by
    simp only [gB] at h
    split at h
    · rename_i us q
      obtain ⟨n, k1, k2⟩ := isLs_ok q
      obtain ⟨vs, r, s⟩ := gBs_ok ds us h
      exact ⟨.ref a, rfl, fun S μ H => ⟨a, vs, rfl, .inr ⟨us, n, k1, k2, r⟩, s S μ H⟩⟩
    · cases h
  | .ref _, u, h => by simp [gB] at h
theorem gBs_ok {K : PySem.W.Frag} : ∀ (ds : List D) (us : List Value), gBs K ds us = true → ∃ vs, Vals vs us ∧ ∀ S μ H, Reps K S μ H ds vs
  | [], [], _ => ⟨[], .nil, fun _ _ _ => rfl⟩
  | d :: ds, u :: us, h => by
    obtain ⟨h1, h2⟩ := Bool.and_eq_true_iff.mp (show (gB K d u && gBs K ds us) = true from h)
    obtain ⟨v, r, k⟩ := gB_ok d u h1
    obtain ⟨vs, rs, ks⟩ := gBs_ok ds us h2
    exact ⟨v :: vs, .cons r rs, fun S μ H => ⟨v, vs, rfl, k S μ H, ks S μ H⟩⟩
  | [], _ :: _, h => by simp [gBs] at h
  | _ :: _, [], h => by simp [gBs] at h
end
def gbx (K : PySem.W.Frag) (x : Str) (d : D) : Bool := match PySem.W.nsIn K mainGlobals x with
  | some (some u) => gB K d u
  | _ => false
theorem glob_of {K : PySem.W.Frag} {h : Heap} {mg : Str → Option Value} (X : K.In h) (G : h.Ns mainGlobals mg) {x : Str} {d : D} (q : gbx K x d = true) : GlobOk K mg x d := by
  unfold gbx at q
  split at q
  · rename_i u e
    obtain ⟨v, r, s⟩ := gB_ok d u q
    exact ⟨u, v, PySem.W.mg_of X G e, r, s⟩
  · cases q
def DefI.he (d : DefI) : He.DefD := ⟨(d.name, none), d.name, d.name, d.params, d.body, d.scope, [], []⟩
/-- a def binds its arguments by place -/
def BindN (d : DefI) : Prop := ∀ (kV doc pm : Value) (an : Option Addr) (cdv ct : Value) (us : List Value), us.length = d.ps.length → bindArgs (PySem.W.fnOf d.name d.name d.params d.body d.scope .none kV doc pm an cdv ct) ⟨us, []⟩ = pure (d.ps.zip us)
theorem topOk_of {K : PySem.W.Frag} {h : Heap} {w : World} {mg : Str → Option Value} {Ds : List DefI} {fa : List He.Fa} {ex : PySem.W.Frag → Bool} (X : K.In h) (G : h.Ns mainGlobals mg) (c : He.SaysX fa (Ds.map DefI.he) [] [] ex w h K)
    (hfa : ∀ d ∈ Ds, He.Fa.glo d.name ∈ fa) (hb : ∀ (i : Nat) (d : DefI), Ds[i]? = some d → BindN d) (hs : ∀ (i : Nat) (d : DefI), Ds[i]? = some d → FnScope d.N d.ps d.scope ∧ d.fn.ar = d.ps.length ∧ d.fn.sl = d.N.length) : TopOk K mg Ds := by
  refine ⟨fun i d hi => ?_, hs⟩
  have hm : d ∈ Ds := List.mem_of_getElem? hi
  obtain ⟨fd, F⟩ := He.SaysD.defs c.t.d (d := d.he) (List.mem_map.mpr ⟨d, hm, rfl⟩)
  have F' : FunD K d.name d.name d.params d.body d.scope [] [] (He.ga K d.name) fd := F
  exact ⟨He.ga K d.name, fd, He.glo_ok X G (He.SaysD.facts c.t.d (hfa d hm)), F', F'.bindsN (hb i d hi)⟩
/-- the law's def, by its place -/
theorem law_fd {K : PySem.W.Frag} {mg : Str → Option Value} {Ds : List DefI} {i : Nat} {d : DefI} {x : Str} {f : Addr} (T : TopOk K mg Ds) (hi : Ds[i]? = some d) (hp : d.ps = [x]) (hb : BindN d) (hm : mg d.name = some (.ref f)) :
    ∃ fd, FunD K d.name d.name d.params d.body d.scope [] [] f fd ∧ ∀ (s : Shared) (v : Value), BindsTo s fd ⟨[v], []⟩ [(x, v)] := by
  obtain ⟨f', fd, h1, F, _⟩ := T.dfn i d hi
  cases hm.symm.trans h1
  refine ⟨fd, F, fun s v => ?_⟩
  have b := F.bindsA (ps := [x]) (fun kV doc pm an cdv ct us hl => by
    have z := hb kV doc pm an cdv ct us (by rw [hp]; exact hl)
    rw [hp] at z
    exact z) s [v] rfl
  exact b
end Iv

set_option Elab.async false
set_option linter.all false
set_option maxRecDepth 100000
set_option maxHeartbeats 4000000
namespace Iv
open PySem
variable {T : List Fn} {w n : Nat}
theorem run_rt {f : Nat} {fn : Fn} {ds : List D} {S S1 : Sto} {d : D} (h : T[f]? = some fn) (hl : ds.length = fn.ar) (e : exs (run T w n) w fn.body (ds.map some ++ List.replicate (fn.sl - fn.ar) none) S = some (.rt d, S1)) : run T w (n + 1) f ds S = some (d, leave S.length d S1) := by
  simp only [run, h, hl, if_true, e]
theorem run_nx {f : Nat} {fn : Fn} {ds : List D} {S S1 : Sto} {ρ : Env} (h : T[f]? = some fn) (hl : ds.length = fn.ar) (e : exs (run T w n) w fn.body (ds.map some ++ List.replicate (fn.sl - fn.ar) none) S = some (.nx ρ, S1)) : run T w (n + 1) f ds S = some (.non, leave S.length .non S1) := by
  simp only [run, h, hl, if_true, e]
theorem op_add {i j : Int} : opD .Add (.int i) (.int j) = some (.int (i + j)) := rfl
theorem op_sub {i j : Int} : opD .Sub (.int i) (.int j) = some (.int (i - j)) := rfl
theorem pw_small2 {i : Int} (h : i.natAbs < 2 ^ 200) : i.natAbs < 2 ^ 8000 := Nat.lt_of_lt_of_le h (Nat.pow_le_pow_right (by decide) (by decide))
theorem op_mul {i j : Int} (h1 : i.natAbs < 2 ^ 63) : opD .Mult (.int i) (.int j) = some (.int (i * j)) := by
  show (if _ then _ else _) = _
  rw [if_pos (by rw [decide_eq_true h1]; rfl)]
theorem op_div {i j : Int} (h1 : 0 < j) (h2 : j.natAbs < 2 ^ 200) : opD .FloorDiv (.int i) (.int j) = some (.int (i / j)) := by
  show (if _ then _ else _) = _
  rw [if_pos (by rw [decide_eq_true h1, decide_eq_true (pw_small2 h2)]; rfl)]
theorem op_mod {i j : Int} (h1 : 0 < j) : opD .Mod (.int i) (.int j) = some (.int (i % j)) := by
  show (if _ then _ else _) = _
  rw [if_pos (decide_eq_true h1)]
theorem op_pow {i j : Int} (h1 : 0 ≤ j) (h2 : j ≤ 1000) (h3 : i.natAbs < 2 ^ 64) : opD .Pow (.int i) (.int j) = some (.int (i ^ j.toNat)) := by
  show (if _ then _ else _) = _
  rw [if_pos (by rw [decide_eq_true h1, decide_eq_true h2, decide_eq_true h3]; rfl)]
theorem pures_ints : ∀ c : List Int, D.pures (c.map D.int) = true
  | [] => rfl
  | _ :: c => by simp [D.pures, D.pure, pures_ints c]
theorem pys_ints : ∀ c : List Int, D.pys (c.map D.int) = c.map PyData.int
  | [] => rfl
  | _ :: c => by simp [D.pys, D.py, pys_ints c]
theorem lay_ints : ∀ c : List Int, PyData.canLayAll0 (c.map PyData.int) = true
  | [] => rfl
  | _ :: c => by simp [PyData.canLayAll0, PyData.canLay0, lay_ints c]
theorem depth_ints : ∀ c : List Int, PyData.depthAll (c.map PyData.int) = 0
  | [] => rfl
  | _ :: c => by simp [PyData.depthAll, PyData.depth, depth_ints c]
theorem ok_ints (c : List Int) : D.ok (.lst (c.map D.int)) = true := by
  simp [D.ok, D.pure, D.py, PyData.canLay0, PyData.depth, pures_ints, pys_ints, lay_ints, depth_ints]
theorem ok_nil : D.ok (.lst []) = true := rfl
theorem eqv_nil (xs : List D) : D.eqv (.lst xs) (.lst []) = xs.isEmpty := by
  cases xs <;> simp [D.eqv, D.py, D.pys, PyData.eqv, PyData.eqvAll]

/-- the shelf: the script's cells, how many were read, what is held -/
def shelf (c : List Int) (t h : Int) : List D := [.lst (c.map D.int), .int t, .int h]
/-- the last part: mixed -/
def mixB (c1 p1 m2 p2 k m1 p3 : Int) : Ss := (.cons (.asg (.n 4) (.op .Mod (.bi .int (.cons (.op .Pow (.op .Add (.op .Add (.op .Mod (.bi .int (.cons (.v 3) .nil)) (.c (.int p1))) (.op .Mult (.c (.int m2)) (.v 2))) (.c (.int c1))) (.c (.int 5))) .nil)) (.c (.int p2)))) (.cons (.asg (.n 4) (.op .Mod (.bi .int (.cons (.op .Pow (.op .Add (.op .Add (.op .Mult (.v 4) (.op .Add (.op .Mult (.c (.int 2)) (.v 2)) (.c (.int k)))) (.op .Mult (.op .Mult (.c (.int m1)) (.v 2)) (.v 2))) (.c (.int m2))) (.c (.int 3))) .nil)) (.c (.int p3)))) (.cons (.ret (.op .Mod (.bi .int (.cons (.op .FloorDiv (.v 4) (.c (.int 64))) .nil)) (.v 1))) .nil)))
def heldB : Ss := (.cons (.put (.v 0) (.c (.int 2)) (.op .FloorDiv (.bi .int (.cons (.v 5) .nil)) (.v 1))) (.cons (.ret (.op .Mod (.bi .int (.cons (.v 5) .nil)) (.v 1))) .nil))
def bigB : St := (.ifs (.and (.cmp .Lt (.v 2) (.bi .len (.cons (.ix (.v 0) (.c (.int 0))) .nil))) (.cmp .GtE (.bi .abs (.cons (.v 3) .nil)) (.op .Pow (.c (.int 10)) (.c (.int 18))))) (.cons (.asg (.n 5) (.op .Add (.op .Mult (.c (.int 2)) (.op .Sub (.bi .abs (.cons (.v 3) .nil)) (.op .Pow (.c (.int 10)) (.c (.int 18))))) (.bi .int (.cons (.cmp .Lt (.v 3) (.c (.int 0))) .nil)))) heldB) .nil)
def cellB : St := (.ifs (.cmp .NotEq (.ix (.v 0) (.c (.int 0))) (.lst .nil)) (.cons (.asg (.n 3) (.ix (.ix (.v 0) (.c (.int 0))) (.op .Mod (.bi .int (.cons (.v 2) .nil)) (.bi .len (.cons (.ix (.v 0) (.c (.int 0))) .nil))))) .nil) .nil)
theorem sh0 (c : List Int) (t h : Int) : ixD (.lst (shelf c t h)) (.int 0) = some (.lst (c.map D.int)) := rfl
theorem sh1 (c : List Int) (t h : Int) : ixD (.lst (shelf c t h)) (.int 1) = some (.int t) := rfl
theorem sh2 (c : List Int) (t h : Int) : ixD (.lst (shelf c t h)) (.int 2) = some (.int h) := rfl
def reachB (m1 c1 p1 m2 p2 k p3 : Int) : Ss := (.cons (.ifs (.cmp .Gt (.ix (.v 0) (.c (.int 2))) (.c (.int 0))) (.cons (.asg (.n 5) (.ix (.v 0) (.c (.int 2)))) heldB) .nil) (.cons (.asg (.n 2) (.ix (.v 0) (.c (.int 1)))) (.cons (.put (.v 0) (.c (.int 1)) (.op .Add (.v 2) (.c (.int 1)))) (.cons (.asg (.n 3) (.op .Add (.op .Mult (.c (.int m1)) (.v 2)) (.c (.int c1)))) (.cons cellB (.cons bigB (mixB c1 p1 m2 p2 k m1 p3)))))))
/-- the numbers that a drawing is made with -/
structure NumsOk (m1 c1 p1 m2 p2 k p3 : Int) : Prop where
  h1 : 0 ≤ m1 ∧ m1 < 2 ^ 20
  h2 : 0 ≤ c1 ∧ c1 < 2 ^ 20
  h3 : 0 < p1 ∧ p1 < 2 ^ 32
  h4 : 0 ≤ m2 ∧ m2 < 2 ^ 20
  h5 : 0 < p2 ∧ p2 < 2 ^ 32
  h6 : 0 ≤ k ∧ k < 2 ^ 20
  h7 : 0 < p3 ∧ p3 < 2 ^ 32
theorem atI_nat {α : Type} {xs : List α} {i : Nat} (h : i < xs.length) : L2.atI xs (i : Int) = xs[i]? := by
  unfold L2.atI L2.ixN
  rw [if_pos (Int.natCast_nonneg i), if_pos (by omega)]
  rfl
section
variable {F : CF} {c : List Int} {R : Sto} {ρ : Env}
/-- what is held is used up -/
theorem held_ok {many t h x : Int} {a2 a3 a4 : Option D} (hm : 0 < many) (hmb : many < 2 ^ 63) :
    exs F w heldB [some (.ref 0), some (.int many), a2, a3, a4, some (.int x)] (some (shelf c t h) :: R) = some (.rt (.int (x % many)), some (shelf c t (x / many)) :: R) := by
  have e1 : opD .FloorDiv (.int x) (.int many) = some (.int (x / many)) := op_div hm (by omega)
  have e2 : opD .Mod (.int x) (.int many) = some (.int (x % many)) := op_mod hm
  simp [heldB, exs, ex, ev, evs, see, seeAll, biD, e1, e2, shelf, L2.ixN, D.pure]
theorem mul_b {a b A B : Int} (h1 : 0 ≤ a) (h2 : a ≤ A) (h3 : 0 ≤ b) (h4 : b ≤ B) : 0 ≤ a * b ∧ a * b ≤ A * B :=
  ⟨Int.mul_nonneg h1 h3, Int.mul_le_mul h2 h4 h3 (by omega)⟩
theorem mix_ok {m1 c1 p1 m2 p2 k p3 many t cell : Int} {a4 a5 : Option D} {S : Sto} (K : NumsOk m1 c1 p1 m2 p2 k p3) (hm : 0 < many) (t0 : 0 ≤ t) (t1 : t ≤ 1000000) :
    ∃ r : Int, 0 ≤ r ∧ r < many ∧ exs F w (mixB c1 p1 m2 p2 k m1 p3) [some (.ref 0), some (.int many), some (.int t), some (.int cell), a4, a5] S = some (.rt (.int r), S) := by
  obtain ⟨⟨k1, k2⟩, ⟨k3, k4⟩, ⟨k5, k6⟩, ⟨k7, k8⟩, ⟨k9, k10⟩, ⟨k11, k12⟩, ⟨k13, k14⟩⟩ := K
  have b1 := Int.emod_nonneg cell (show p1 ≠ 0 by omega)
  have b2 := Int.emod_lt_of_pos cell k5
  obtain ⟨b3, b4⟩ := mul_b k7 (Int.le_of_lt k8) t0 t1
  generalize hx : cell % p1 + m2 * t + c1 = x
  have hx1 : x.natAbs < 2 ^ 64 := by omega
  generalize hy : x ^ 5 % p2 = y
  have b5 : 0 ≤ y := hy ▸ Int.emod_nonneg _ (show p2 ≠ 0 by omega)
  have b6 : y < p2 := hy ▸ Int.emod_lt_of_pos _ k9
  obtain ⟨b7, b8⟩ := mul_b b5 (show y ≤ 2 ^ 32 by omega) (show 0 ≤ 2 * t + k by omega) (show 2 * t + k ≤ 2000000 + 2 ^ 20 by omega)
  obtain ⟨b9, b10⟩ := mul_b k1 (Int.le_of_lt k2) t0 t1
  obtain ⟨b11, b12⟩ := mul_b b9 b10 t0 t1
  generalize hz : y * (2 * t + k) + m1 * t * t + m2 = z
  have hz1 : z.natAbs < 2 ^ 64 := by omega
  have e1 : opD .Mod (.int cell) (.int p1) = some (.int (cell % p1)) := op_mod k5
  have e2 : opD .Mult (.int m2) (.int t) = some (.int (m2 * t)) := op_mul (by omega)
  have e3 : opD .Pow (.int x) (.int 5) = some (.int (x ^ 5)) := op_pow (by decide) (by decide) hx1
  have e4 : opD .Mod (.int (x ^ 5)) (.int p2) = some (.int y) := by rw [op_mod k9, hy]
  have e5 : opD .Mult (.int y) (.int (2 * t + k)) = some (.int (y * (2 * t + k))) := op_mul (by omega)
  have e6 : opD .Mult (.int 2) (.int t) = some (.int (2 * t)) := op_mul (by decide)
  have e7 : opD .Mult (.int m1) (.int t) = some (.int (m1 * t)) := op_mul (by omega)
  have e8 : opD .Mult (.int (m1 * t)) (.int t) = some (.int (m1 * t * t)) := op_mul (by omega)
  have e9 : opD .Pow (.int z) (.int 3) = some (.int (z ^ 3)) := op_pow (by decide) (by decide) hz1
  have e10 : opD .Mod (.int (z ^ 3)) (.int p3) = some (.int (z ^ 3 % p3)) := op_mod k13
  have e11 : opD .FloorDiv (.int (z ^ 3 % p3)) (.int 64) = some (.int (z ^ 3 % p3 / 64)) := op_div (by decide) (by decide)
  have e12 : opD .Mod (.int (z ^ 3 % p3 / 64)) (.int many) = some (.int (z ^ 3 % p3 / 64 % many)) := op_mod hm
  refine ⟨z ^ 3 % p3 / 64 % many, Int.emod_nonneg _ (by omega), Int.emod_lt_of_pos _ hm, ?_⟩
  simp [mixB, exs, ex, ev, evs, see, seeAll, biD, e1, e2, op_add, hx, e3, e4, e5, e6, e7, e8, hz, e9, e10, e11, e12, setT]
/-- a cell is chosen -/
theorem cell_ok {many t t2 x : Int} {a4 a5 : Option D} {h : Int} (t0 : 0 ≤ t) :
    ∃ y : Int, ex F w cellB [some (.ref 0), some (.int many), some (.int t), some (.int x), a4, a5] (some (shelf c t2 h) :: R) = some (.nx [some (.ref 0), some (.int many), some (.int t), some (.int y), a4, a5], some (shelf c t2 h) :: R) := by
  have z1 : cmpD .NotEq (.lst (c.map D.int)) (.lst []) = some (!c.isEmpty) := by
    show (if _ then _ else _) = _
    rw [if_pos (by rw [ok_ints, ok_nil]; rfl), eqv_nil]
    cases c <;> rfl
  cases hc : c.isEmpty with
  | true =>
    rw [hc] at z1
    exact ⟨x, by simp [cellB, exs, ex, ev, evs, see, sh0, small, z1]⟩
  | false =>
    rw [hc] at z1
    have hl : 0 < c.length := by cases c with | nil => cases hc | cons a r => simp
    have q1 := Int.emod_nonneg t (show (c.length : Int) ≠ 0 by omega)
    have q2 := Int.emod_lt_of_pos t (show (0 : Int) < c.length by omega)
    obtain ⟨j, hj⟩ := Int.eq_ofNat_of_zero_le q1
    have hj2 : j < c.length := by omega
    have z2 : opD .Mod (.int t) (.int (c.length : Int)) = some (.int (j : Int)) := by rw [op_mod (by omega), hj]
    have z3 : ixD (.lst (c.map D.int)) (.int (j : Int)) = some (.int c[j]) := by
      show L2.atI (c.map D.int) (j : Int) = _
      rw [atI_nat (by simpa using hj2), List.getElem?_map, List.getElem?_eq_getElem hj2]
      rfl
    have z6 : biD .len [.lst (c.map D.int)] = some (.int c.length) := by simp [biD]
    have z7 : biD .int [.int t] = some (.int t) := rfl
    exact ⟨c[j], by simp [cellB, exs, ex, ev, evs, see, seeAll, z6, z7, sh0, z1, z2, z3, setT, small]⟩
/-- a great cell is held, or nothing is done -/
theorem big_ok {many t t2 x h : Int} {a4 a5 : Option D} (t0 : 0 ≤ t) (hm : 0 < many) (hmb : many < 2 ^ 63) :
    (∃ y : Int, 0 ≤ y ∧ ex F w bigB [some (.ref 0), some (.int many), some (.int t), some (.int x), a4, a5] (some (shelf c t2 h) :: R) = some (.rt (.int (y % many)), some (shelf c t2 (y / many)) :: R)) ∨
    ex F w bigB [some (.ref 0), some (.int many), some (.int t), some (.int x), a4, a5] (some (shelf c t2 h) :: R) = some (.nx [some (.ref 0), some (.int many), some (.int t), some (.int x), a4, a5], some (shelf c t2 h) :: R) := by
  have z1 : opD .Pow (.int 10) (.int 18) = some (.int (10 ^ 18)) := op_pow (by decide) (by decide) (by decide)
  have z5 : (if x < 0 then -x else x) = (x.natAbs : Int) := by split <;> omega
  by_cases hc : t < (c.length : Int)
  · by_cases hx : (10 : Int) ^ 18 ≤ (x.natAbs : Int)
    · refine .inl ⟨2 * ((x.natAbs : Int) - 10 ^ 18) + (if x < 0 then 1 else 0), by split <;> omega, ?_⟩
      have z2 : opD .Mult (.int 2) (.int ((x.natAbs : Int) - 10 ^ 18)) = some (.int (2 * ((x.natAbs : Int) - 10 ^ 18))) := op_mul (by decide)
      have z3 : biD .int [.bl (decide (x < 0))] = some (.int (if x < 0 then 1 else 0)) := by by_cases q : x < 0 <;> simp [biD, q]
      have z4 : biD .abs [.int x] = some (.int (x.natAbs : Int)) := by rw [← z5]; rfl
      have z6 : biD .len [.lst (c.map D.int)] = some (.int c.length) := by simp [biD]
      have z7 : cmpD .Lt (.int t) (.int c.length) = some true := by simp [cmpD, hc]
      have z8 : cmpD .GtE (.int (x.natAbs : Int)) (.int (10 ^ 18)) = some true := congrArg some (decide_eq_true hx)
      have z9 : cmpD .Lt (.int x) (.int 0) = some (decide (x < 0)) := rfl
      simp only [bigB, exs, ex, ev, evs, see, seeAll, List.getElem?_cons_zero, List.getElem?_cons_succ, sh0, z6, z7, z4, z1, z8, z9, z2, z3, op_sub, op_add, setT, List.set_cons_succ, List.set_cons_zero, held_ok hm hmb]
    · refine .inr ?_
      have z4 : biD .abs [.int x] = some (.int (x.natAbs : Int)) := by rw [← z5]; rfl
      have z6 : biD .len [.lst (c.map D.int)] = some (.int c.length) := by simp [biD]
      have z7 : cmpD .Lt (.int t) (.int c.length) = some true := by simp [cmpD, hc]
      have z8 : cmpD .GtE (.int (x.natAbs : Int)) (.int (10 ^ 18)) = some false := congrArg some (decide_eq_false hx)
      simp only [bigB, exs, ex, ev, evs, see, seeAll, List.getElem?_cons_zero, List.getElem?_cons_succ, sh0, z6, z7, z4, z1, z8]
  · refine .inr ?_
    have z6 : biD .len [.lst (c.map D.int)] = some (.int c.length) := by simp [biD]
    have z7 : cmpD .Lt (.int t) (.int c.length) = some false := by simp [cmpD, hc]
    simp only [bigB, exs, ex, ev, evs, see, seeAll, List.getElem?_cons_zero, List.getElem?_cons_succ, sh0, z6, z7]
end
/-- a drawing: a number below many -/
theorem reach_ok {m1 c1 p1 m2 p2 k p3 : Int} {f : Nat} (hT : T[f]? = some ⟨2, 6, reachB m1 c1 p1 m2 p2 k p3⟩) (K : NumsOk m1 c1 p1 m2 p2 k p3) {many t h : Int} {c : List Int} {R : Sto} (hm : 0 < many) (hmb : many < 2 ^ 63) (t0 : 0 ≤ t) (t1 : t ≤ 1000000) (h0 : 0 ≤ h) :
    ∃ r t' h' : Int, 0 ≤ r ∧ r < many ∧ t ≤ t' ∧ t' ≤ t + 1 ∧ 0 ≤ h' ∧ run T w (n + 1) f [.ref 0, .int many] (some (shelf c t h) :: R) = some (.int r, some (shelf c t' h') :: R) := by
  have fin : ∀ {r t' h' : Int}, exs (run T w n) w (reachB m1 c1 p1 m2 p2 k p3) [some (.ref 0), some (.int many), none, none, none, none] (some (shelf c t h) :: R) = some (.rt (.int r), some (shelf c t' h') :: R) →
      run T w (n + 1) f [.ref 0, .int many] (some (shelf c t h) :: R) = some (.int r, some (shelf c t' h') :: R) := fun e => by
    rw [run_rt hT rfl e]
    simp [leave, D.pure]
  by_cases hh : 0 < h
  · refine ⟨h % many, t, h / many, Int.emod_nonneg _ (by omega), Int.emod_lt_of_pos _ hm, by omega, by omega, Int.ediv_nonneg h0 (by omega), fin ?_⟩
    have z1 : cmpD .Gt (.int h) (.int 0) = some true := by simp [cmpD, hh]
    simp only [reachB, exs, ex, ev, evs, see, seeAll, List.getElem?_cons_zero, List.getElem?_cons_succ, sh2, z1, setT, List.set_cons_succ, List.set_cons_zero, held_ok hm hmb]
  · have z1 : cmpD .Gt (.int h) (.int 0) = some false := by simp [cmpD, hh]
    have z2 : opD .Mult (.int m1) (.int t) = some (.int (m1 * t)) := op_mul (by have := K.h1; omega)
    have z3 : L2.ixN (shelf c t h).length 1 = some 1 := rfl
    have z4 : (shelf c t h).set 1 (.int (t + 1)) = shelf c (t + 1) h := rfl
    obtain ⟨y, hy⟩ := cell_ok (F := run T w n) (w := w) (c := c) (R := R) (many := many) (t := t) (t2 := t + 1) (x := m1 * t + c1) (a4 := none) (a5 := none) (h := h) t0
    have base : ∀ {o}, exs (run T w n) w (.cons cellB (.cons bigB (mixB c1 p1 m2 p2 k m1 p3))) [some (.ref 0), some (.int many), some (.int t), some (.int (m1 * t + c1)), none, none] (some (shelf c (t + 1) h) :: R) = o →
        exs (run T w n) w (reachB m1 c1 p1 m2 p2 k p3) [some (.ref 0), some (.int many), none, none, none, none] (some (shelf c t h) :: R) = o := fun e => by
      rw [← e]
      simp only [reachB, exs, ex, ev, evs, see, seeAll, List.getElem?_cons_zero, List.getElem?_cons_succ, sh1, sh2, z1, z2, op_add, z3, z4, setT, List.set_cons_succ, List.set_cons_zero, D.pure, if_true]
    rcases big_ok (F := run T w n) (w := w) (c := c) (R := R) (t2 := t + 1) (x := y) (a4 := none) (a5 := none) (h := h) t0 hm hmb with ⟨z, q1, q2⟩ | q2
    · exact ⟨z % many, t + 1, z / many, Int.emod_nonneg _ (by omega), Int.emod_lt_of_pos _ hm, by omega, by omega, Int.ediv_nonneg q1 (by omega), fin (base (by simp only [exs, hy, q2]))⟩
    · obtain ⟨r, r0, r1, q3⟩ := mix_ok (F := run T w n) (w := w) (cell := y) (a4 := none) (a5 := none) (S := some (shelf c (t + 1) h) :: R) K hm t0 t1
      exact ⟨r, t + 1, h, r0, r1, by omega, by omega, h0, fin (base (by simp only [exs, hy, q2, q3]))⟩
end Iv

set_option Elab.async false
set_option linter.all false
set_option maxRecDepth 100000
set_option maxHeartbeats 4000000
namespace Iv
open PySem
variable {T : List Fn} {w n : Nat}
theorem leave_same {S S' : Sto} {d : D} (h : S'.length = S.length) : leave S.length d S' = S' := by
  unfold leave
  split
  · exact List.take_of_length_le (by omega)
  · rfl
/-- a def that hands back, its places as before -/
theorem run_rts {f : Nat} {fn : Fn} {ds : List D} {S S1 : Sto} {d : D} (h : T[f]? = some fn) (hl : ds.length = fn.ar) (hs : S1.length = S.length) (e : exs (run T w n) w fn.body (ds.map some ++ List.replicate (fn.sl - fn.ar) none) S = some (.rt d, S1)) : run T w (n + 1) f ds S = some (d, S1) := by
  rw [run_rt h hl e, leave_same hs]
theorem run_nxs {f : Nat} {fn : Fn} {ds : List D} {S S1 : Sto} {ρ : Env} (h : T[f]? = some fn) (hl : ds.length = fn.ar) (hs : S1.length = S.length) (e : exs (run T w n) w fn.body (ds.map some ++ List.replicate (fn.sl - fn.ar) none) S = some (.nx ρ, S1)) : run T w (n + 1) f ds S = some (.non, S1) := by
  rw [run_nx h hl e, leave_same hs]

inductive Wr where
  | nm (x : Str) | of (x : Str) (b : Wr) | to (a b : Wr)
def Wr.size : Wr → Nat
  | .nm _ => 1
  | .of _ b => b.size + 1
  | .to a b => a.size + b.size + 1
def Wr.dp : Wr → Nat
  | .nm _ => 0
  | .of _ b => b.dp + 1
  | .to a b => max a.dp b.dp + 1
def Wr.names : Wr → List Str
  | .nm x => [x]
  | .of x b => x :: b.names
  | .to a b => a.names ++ b.names
def Wr.enc : Wr → D
  | .nm x => .str x
  | .of x b => .tup [.str "of", .str x, b.enc]
  | .to a b => .tup [.str "to", a.enc, b.enc]
def Wr.encL : Wr → D
  | .nm x => .str x
  | .of x b => .lst [.str "of", .str x, b.encL]
  | .to a b => .lst [.str "to", a.encL, b.encL]
theorem Wr.pure_enc : ∀ w : Wr, w.enc.pure = true
  | .nm _ => rfl
  | .of _ b => by simp [Wr.enc, D.pure, D.pures, b.pure_enc]
  | .to a b => by simp [Wr.enc, D.pure, D.pures, a.pure_enc, b.pure_enc]
theorem Wr.size_pos : ∀ w : Wr, 0 < w.size
  | .nm _ => Nat.zero_lt_one
  | .of _ b => Nat.succ_pos _
  | .to _ _ => Nat.succ_pos _

/-- the first of the drawing's numbers -/
structure Dr (T : List Fn) (w f : Nat) (c : List Int) : Prop where
  ok : ∀ (n : Nat) (R : Sto) (many t h : Int), 0 < many → many < 2 ^ 63 → 0 ≤ t → t ≤ 1000000 → 0 ≤ h →
    ∃ r t' h' : Int, 0 ≤ r ∧ r < many ∧ t ≤ t' ∧ t' ≤ t + 1 ∧ 0 ≤ h' ∧ run T w (n + 1) f [.ref 0, .int many] (some (shelf c t h) :: R) = some (.int r, some (shelf c t' h') :: R)
theorem dr_of {m1 c1 p1 m2 p2 k p3 : Int} {f : Nat} {c : List Int} (hT : T[f]? = some ⟨2, 6, reachB m1 c1 p1 m2 p2 k p3⟩) (K : NumsOk m1 c1 p1 m2 p2 k p3) : Dr T w f c :=
  ⟨fun n R many t h h1 h2 h3 h4 h5 => reach_ok hT K h1 h2 h3 h4 h5⟩
def oneB (rc : Nat) : Ss := (.cons (.ret (.ix (.v 1) (.call rc (.cons (.v 0) (.cons (.bi .len (.cons (.v 1) .nil)) .nil))))) .nil)
theorem len_lst (xs : List D) : biD .len [.lst xs] = some (.int xs.length) := rfl
theorem len_tup (xs : List D) : biD .len [.tup xs] = some (.int xs.length) := rfl
theorem ix_lst (xs : List D) (i : Int) : ixD (.lst xs) (.int i) = L2.atI xs i := rfl
theorem ix_tup (xs : List D) (i : Int) : ixD (.tup xs) (.int i) = L2.atI xs i := rfl
/-- one of some -/
theorem one_ok {rc f : Nat} {c : List Int} (D0 : Dr T w rc c) (hT : T[f]? = some ⟨2, 2, oneB rc⟩) {xs : List D} (hx : xs ≠ []) (hl : xs.length < 2 ^ 60) {R : Sto} {t h : Int} (t0 : 0 ≤ t) (t1 : t ≤ 1000000) (h0 : 0 ≤ h) :
    ∃ (j : Nat) (x : D) (t' h' : Int), xs[j]? = some x ∧ t ≤ t' ∧ t' ≤ t + 1 ∧ 0 ≤ h' ∧ run T w (n + 2) f [.ref 0, .lst xs] (some (shelf c t h) :: R) = some (x, some (shelf c t' h') :: R) := by
  have hp : 0 < xs.length := List.length_pos_iff.mpr hx
  obtain ⟨r, t', h', r0, r1, q1, q2, q3, e⟩ := D0.ok n R xs.length t h (by omega) (by omega) t0 t1 h0
  obtain ⟨j, rfl⟩ := Int.eq_ofNat_of_zero_le r0
  have hj : j < xs.length := by omega
  refine ⟨j, xs[j], t', h', List.getElem?_eq_getElem hj, q1, q2, q3, run_rts hT rfl rfl ?_⟩
  have z : ixD (.lst xs) (.int (j : Int)) = some xs[j] := by rw [ix_lst, atI_nat hj, List.getElem?_eq_getElem hj]
  simp [oneB, exs, ex, ev, evs, see, seeAll, len_lst, e, z]
theorem one_str {rc f : Nat} {c : List Int} (D0 : Dr T w rc c) (hT : T[f]? = some ⟨2, 2, oneB rc⟩) {xs : List Str} (hx : xs ≠ []) (hl : xs.length < 2 ^ 60) {R : Sto} {t h : Int} (t0 : 0 ≤ t) (t1 : t ≤ 1000000) (h0 : 0 ≤ h) :
    ∃ (x : Str) (t' h' : Int), x ∈ xs ∧ t ≤ t' ∧ t' ≤ t + 1 ∧ 0 ≤ h' ∧ run T w (n + 2) f [.ref 0, .lst (xs.map D.str)] (some (shelf c t h) :: R) = some (.str x, some (shelf c t' h') :: R) := by
  obtain ⟨j, d, t', h', hj, q⟩ := one_ok (n := n) D0 hT (xs := xs.map D.str) (by simpa using hx) (by simpa using hl) (R := R) t0 t1 h0
  rw [List.getElem?_map] at hj
  cases hx2 : xs[j]? with
  | none => rw [hx2] at hj; cases hj
  | some x =>
    rw [hx2] at hj
    cases hj
    exact ⟨x, t', h', List.mem_of_getElem? hx2, q⟩

def ofS (one f : Nat) : Ss := (.cons (.ret (.tup (.cons (.c (.str "of")) (.cons (.call one (.cons (.v 0) (.cons (.v 2) .nil))) (.cons (.call f (.cons (.v 0) (.cons (.op .Sub (.v 1) (.c (.int 1))) (.cons (.v 2) .nil)))) .nil))))) .nil)
def toS (f : Nat) : Ss := (.cons (.ret (.tup (.cons (.c (.str "to")) (.cons (.call f (.cons (.v 0) (.cons (.v 3) (.cons (.v 2) .nil)))) (.cons (.call f (.cons (.v 0) (.cons (.op .Sub (.op .Sub (.v 1) (.c (.int 1))) (.v 3)) (.cons (.v 2) .nil)))) .nil))))) .nil)
def drawnB (rc one self : Nat) : Ss := (.cons (.ifs (.cmp .Eq (.v 1) (.c (.int 1))) (.cons (.ret (.call one (.cons (.v 0) (.cons (.v 2) .nil)))) .nil) .nil) (.cons (.ifs (.or (.cmp .Eq (.v 1) (.c (.int 2))) (.and (.cmp .Lt (.v 1) (.c (.int 21))) (.cmp .Gt (.call rc (.cons (.v 0) (.cons (.c (.int 3)) .nil))) (.c (.int 0))))) (ofS one self) .nil) (.cons (.asg (.n 3) (.ite (.cmp .Lt (.v 1) (.c (.int 21))) (.op .Add (.c (.int 1)) (.call rc (.cons (.v 0) (.cons (.op .Sub (.v 1) (.c (.int 2))) .nil)))) (.op .Add (.bi .int (.cons (.op .FloorDiv (.v 1) (.c (.int 3))) .nil)) (.call rc (.cons (.v 0) (.cons (.bi .int (.cons (.op .FloorDiv (.v 1) (.c (.int 3))) .nil)) .nil)))))) (toS self))))
def dpb (s : Nat) : Nat := if s < 21 then s else 20 + s / 5
theorem drawn_ok {rc one f : Nat} {c : List Int} (D0 : Dr T w rc c) (h1 : T[one]? = some ⟨2, 2, oneB rc⟩) (hT : T[f]? = some ⟨3, 4, drawnB rc one f⟩) {ns : List Str} (hx : ns ≠ []) (hl : ns.length < 2 ^ 60) {R : Sto} :
    ∀ (s : Nat), 1 ≤ s → ∀ (n : Nat) (t h : Int), dpb s + 2 ≤ n → 0 ≤ t → t + 3 * s ≤ 1000000 → 0 ≤ h →
      ∃ (W : Wr) (t' h' : Int), (∀ x ∈ W.names, x ∈ ns) ∧ W.size ≤ s ∧ W.dp ≤ dpb s ∧ t ≤ t' ∧ t' ≤ t + 3 * s ∧ 0 ≤ h' ∧ run T w n f [.ref 0, .int s, .lst (ns.map D.str)] (some (shelf c t h) :: R) = some (W.enc, some (shelf c t' h') :: R) := by
  intro s
  induction s using Nat.strongRecOn with
  | ind s ih =>
    intro hs n t h hn t0 t1 h0
    obtain ⟨n, rfl⟩ : ∃ m, n = m + 3 := ⟨n - 3, by unfold dpb at hn; split at hn <;> omega⟩
    have sm3 : ∀ a b d : D, small [a, b, d].length = true := fun _ _ _ => rfl
    have d2 : 2 ≤ s → dpb (s - 1) + 1 ≤ dpb s ∨ 21 ≤ s := fun h2 => by
      unfold dpb
      by_cases h : s < 21
      · rw [if_pos h, if_pos (by omega)]; omega
      · exact .inr (by omega)
    have dto : ∀ p, (s < 21 → p + 1 ≤ s) → (21 ≤ s → p + s / 3 ≤ s) → dpb p + 1 ≤ dpb s := fun p a1 a2 => by
      unfold dpb
      split <;> split <;> omega
    -- of
    have hof : ∀ (t h : Int), 2 ≤ s → s < 21 → 0 ≤ t → t + (3 * s - 1) ≤ 1000000 → 0 ≤ h → ∃ (W : Wr) (t' h' : Int), (∀ x ∈ W.names, x ∈ ns) ∧ W.size ≤ s ∧ W.dp ≤ dpb s ∧ t ≤ t' ∧ t' ≤ t + (3 * s - 1) ∧ 0 ≤ h' ∧
        exs (run T w (n + 2)) w (ofS one f) [some (.ref 0), some (.int s), some (.lst (ns.map D.str)), none] (some (shelf c t h) :: R) = some (.rt W.enc, some (shelf c t' h') :: R) := by
      intro t h h2 h21 t0 t1 h0
      obtain ⟨x, t2, h2', q1, q2, q3, q4, q5⟩ := one_str (n := n) D0 h1 hx hl (R := R) t0 (by omega) h0
      obtain ⟨W, t3, h3', p1, p2, p3, p4, p5, p6, p7⟩ := ih (s - 1) (by omega) (by omega) (n + 2) t2 h2' (by have := dto (s - 1) (by omega) (by omega); omega) (by omega) (by omega) q4
      have es : (s : Int) - 1 = ((s - 1 : Nat) : Int) := by omega
      refine ⟨.of x W, t3, h3', fun y hy => ?_, by simp only [Wr.size]; omega, by have := dto (s - 1) (by omega) (by omega); simp only [Wr.dp]; omega, by omega, by omega, p6, ?_⟩
      · rcases List.mem_cons.mp hy with rfl | hy
        · exact q1
        · exact p1 y hy
      · simp [ofS, exs, ex, ev, evs, see, q5, op_sub, es, p7, Wr.enc, small]
    have hto : ∀ (t h : Int) (p : Nat), 1 ≤ p → p + 2 ≤ s → (21 ≤ s → s / 3 ≤ p ∧ p ≤ s - s / 3) → 0 ≤ t → t + 3 * (s - 1) ≤ 1000000 → 0 ≤ h → ∃ (W : Wr) (t' h' : Int), (∀ x ∈ W.names, x ∈ ns) ∧ W.size ≤ s ∧ W.dp ≤ dpb s ∧ t ≤ t' ∧ t' ≤ t + 3 * (s - 1) ∧ 0 ≤ h' ∧
        exs (run T w (n + 2)) w (toS f) [some (.ref 0), some (.int s), some (.lst (ns.map D.str)), some (.int p)] (some (shelf c t h) :: R) = some (.rt W.enc, some (shelf c t' h') :: R) := by
      intro t h p h1 h2 h3 t0 t1 h0
      have e1 := dto p (by omega) (by omega)
      have e2 := dto (s - 1 - p) (by omega) (by omega)
      obtain ⟨W1, t2, h2', q1, q2, q3, q4, q5, q6, q7⟩ := ih p (by omega) h1 (n + 2) t h (by omega) t0 (by omega) h0
      obtain ⟨W2, t3, h3', p1, p2, p3, p4, p5, p6, p7⟩ := ih (s - 1 - p) (by omega) (by omega) (n + 2) t2 h2' (by omega) (by omega) (by omega) q6
      have es : (s : Int) - 1 - (p : Int) = ((s - 1 - p : Nat) : Int) := by omega
      refine ⟨.to W1 W2, t3, h3', fun y hy => ?_, by simp only [Wr.size]; omega, by simp only [Wr.dp]; omega, by omega, by omega, p6, ?_⟩
      · rcases List.mem_append.mp hy with hy | hy
        · exact q1 y hy
        · exact p1 y hy
      · simp [toS, exs, ex, ev, evs, see, q7, op_sub, es, p7, Wr.enc, small]
    have fin : ∀ {W : Wr} {t' h' : Int}, exs (run T w (n + 2)) w (drawnB rc one f) [some (.ref 0), some (.int s), some (.lst (ns.map D.str)), none] (some (shelf c t h) :: R) = some (.rt W.enc, some (shelf c t' h') :: R) →
        run T w (n + 3) f [.ref 0, .int s, .lst (ns.map D.str)] (some (shelf c t h) :: R) = some (W.enc, some (shelf c t' h') :: R) := fun e => run_rts hT rfl rfl e
    by_cases c1 : s = 1
    · subst c1
      obtain ⟨x, t2, h2', q1, q2, q3, q4, q5⟩ := one_str (n := n) D0 h1 hx hl (R := R) t0 (by omega) h0
      refine ⟨.nm x, t2, h2', fun y hy => by rw [List.mem_singleton.mp hy]; exact q1, Nat.le_refl _, Nat.zero_le _, q2, by omega, q4, fin ?_⟩
      simp [drawnB, exs, ex, ev, evs, see, cmpD, q5, Wr.enc]
    have z1 : cmpD .Eq (.int s) (.int 1) = some false := congrArg some (decide_eq_false (by omega))
    by_cases c2 : s = 2
    · have z2 : cmpD .Eq (.int s) (.int 2) = some true := congrArg some (decide_eq_true (by omega))
      obtain ⟨W, t', h', q1, q2, q3, q4, q5, q6, q7⟩ := hof t h (by omega) (by omega) t0 (by omega) h0
      refine ⟨W, t', h', q1, q2, q3, q4, by omega, q6, fin ?_⟩
      simp only [drawnB, exs, ex, ev, see, List.getElem?_cons_zero, List.getElem?_cons_succ, z1, z2, q7]
    have z2 : cmpD .Eq (.int s) (.int 2) = some false := congrArg some (decide_eq_false (by omega))
    by_cases c3 : s < 21
    · have z3 : cmpD .Lt (.int s) (.int 21) = some true := congrArg some (decide_eq_true (by omega))
      obtain ⟨r, t1', h1', r0, r1, q1, q2, q3, q4⟩ := D0.ok (n + 1) R 3 t h (by decide) (by decide) t0 (by omega) h0
      by_cases cr : 0 < r
      · have z4 : cmpD .Gt (.int r) (.int 0) = some true := congrArg some (decide_eq_true cr)
        obtain ⟨W, t', h', p1, p2, p3, p4, p5, p6, p7⟩ := hof t1' h1' (by omega) c3 (by omega) (by omega) q3
        refine ⟨W, t', h', p1, p2, p3, by omega, by omega, p6, fin ?_⟩
        simp only [drawnB, exs, ex, ev, evs, see, List.getElem?_cons_zero, List.getElem?_cons_succ, z1, z2, z3, q4, z4, p7]
      · have z4 : cmpD .Gt (.int r) (.int 0) = some false := congrArg some (decide_eq_false cr)
        obtain ⟨r2, t2', h2', y0, y1, y2, y3, y4, y5⟩ := D0.ok (n + 1) R ((s : Int) - 2) t1' h1' (by omega) (by omega) (by omega) (by omega) q3
        obtain ⟨W, t', h', p1, p2, p3, p4, p5, p6, p7⟩ := hto t2' h2' (1 + r2).toNat (by omega) (by omega) (by omega) (by omega) (by omega) y4
        rw [show (((1 + r2).toNat : Nat) : Int) = 1 + r2 by omega] at p7
        refine ⟨W, t', h', p1, p2, p3, by omega, by omega, p6, fin ?_⟩
        simp only [drawnB, exs, ex, ev, evs, see, List.getElem?_cons_zero, List.getElem?_cons_succ, z1, z2, z3, q4, z4, op_sub, y5, op_add, setT, List.set_cons_succ, List.set_cons_zero, p7]
    · have z3 : cmpD .Lt (.int s) (.int 21) = some false := congrArg some (decide_eq_false (by omega))
      have z5 : opD .FloorDiv (.int s) (.int 3) = some (.int ((s : Int) / 3)) := op_div (by decide) (by decide)
      have z6 : biD .int [.int ((s : Int) / 3)] = some (.int ((s : Int) / 3)) := rfl
      obtain ⟨r2, t2', h2', y0, y1, y2, y3, y4, y5⟩ := D0.ok (n + 1) R ((s : Int) / 3) t h (by omega) (by omega) (by omega) (by omega) h0
      obtain ⟨W, t', h', p1, p2, p3, p4, p5, p6, p7⟩ := hto t2' h2' ((s : Int) / 3 + r2).toNat (by omega) (by omega) (by omega) (by omega) (by omega) y4
      rw [show ((((s : Int) / 3 + r2).toNat : Nat) : Int) = (s : Int) / 3 + r2 by omega] at p7
      refine ⟨W, t', h', p1, p2, p3, by omega, by omega, p6, fin ?_⟩
      simp only [drawnB, exs, ex, ev, evs, see, seeAll, List.getElem?_cons_zero, List.getElem?_cons_succ, z1, z2, z3, z5, z6, y5, op_add, setT, List.set_cons_succ, List.set_cons_zero, p7]
end Iv

set_option Elab.async false
set_option linter.all false
set_option maxRecDepth 100000
set_option maxHeartbeats 4000000
namespace Iv
open PySem
variable {T : List Fn} {w n : Nat}
theorem compRun_map {f : D → Sto → Option (Option D × Sto)} {g : D → D} {S : Sto} : ∀ (xs acc : List D), (∀ d ∈ xs, f d S = some (some (g d), S)) → acc.length + xs.length ≤ 100000 → compRun f xs acc S = some (acc ++ xs.map g, S)
  | [], acc, _, _ => by simp [compRun]
  | d :: ds, acc, h, hl => by
    simp only [List.length_cons] at hl
    have ih := compRun_map (f := f) (g := g) (S := S) ds (acc ++ [g d]) (fun e he => h e (List.mem_cons_of_mem _ he)) (by simp; omega)
    simp [compRun, h d List.mem_cons_self, small, show acc.length + 1 ≤ 100000 by omega, ih]
theorem ev_comp {F : CF} {t : Tg} {it elt : E} {ρ : Env} {S S1 : Sto} {x : D} {xs : List D} {g : D → D} (h1 : ev F it ρ S = some (x, S1)) (h2 : items x = some xs) (h3 : ∀ d ∈ xs, ∃ ρ', setT t d (wipeT t ρ) = some ρ' ∧ ev F elt ρ' S1 = some (g d, S1)) (hl : xs.length ≤ 100000) :
    ev F (.comp false t it elt) ρ S = some (.lst (xs.map g), S1) := by
  simp only [ev, h1, h2]
  rw [compRun_map (g := g) xs [] (fun d hd => by
        obtain ⟨ρ', e1, e2⟩ := h3 d hd
        simp only [e1, e2]) (by simpa using hl)]
  rfl
theorem compRun_filter {f : D → Sto → Option (Option D × Sto)} {p : D → Bool} {S : Sto} : ∀ (xs acc : List D), (∀ d ∈ xs, f d S = some (if p d then some d else none, S)) → acc.length + xs.length ≤ 100000 → compRun f xs acc S = some (acc ++ xs.filter p, S)
  | [], acc, _, _ => by simp [compRun]
  | d :: ds, acc, h, hl => by
    simp only [List.length_cons] at hl
    have hd := h d List.mem_cons_self
    have hr : ∀ e ∈ ds, f e S = some (if p e then some e else none, S) := fun e he => h e (List.mem_cons_of_mem _ he)
    cases q : p d with
    | true =>
      have ih := compRun_filter (f := f) (p := p) (S := S) ds (acc ++ [d]) hr (by simp; omega)
      rw [q] at hd
      simp [compRun, hd, small, show acc.length + 1 ≤ 100000 by omega, ih, q]
    | false =>
      have ih := compRun_filter (f := f) (p := p) (S := S) ds acc hr (by omega)
      rw [q] at hd
      simp [compRun, hd, ih, q]
theorem ev_filter {F : CF} {i : Nat} {it cond : E} {ρ : Env} {S S1 : Sto} {x : D} {xs : List D} {p : D → Bool} (h1 : ev F it ρ S = some (x, S1)) (h2 : items x = some xs) (hi : i < ρ.length) (h3 : ∀ d ∈ xs, ev F cond ((ρ.set i none).set i (some d)) S1 = some (.bl (p d), S1)) (hl : xs.length ≤ 100000) :
    ev F (.compI false (.n i) it cond (.v i)) ρ S = some (.lst (xs.filter p), S1) := by
  have e1 : ∀ d, ((ρ.set i none).set i (some d))[i]? = some (some d) := fun d => by
    simp [List.getElem?_set, hi]
  simp only [ev, h1, h2]
  rw [compRun_filter (p := p) xs [] (fun d hd => by
        have e2 := h3 d hd
        simp only [setT, wipeT, e2, e1]
        cases q : p d <;> rfl) (by simpa using hl)]
  rfl
theorem eqv_str (a b : Str) : D.eqv (.str a) (.str b) = decide (a = b) := by
  simp [D.eqv, D.py, PyData.eqv]
  rw [Bool.eq_iff_iff]
  simp
theorem bls_map (f : D → Bool) : ∀ xs : List D, bls? (xs.map fun d => .bl (f d)) = some (xs.map f)
  | [] => rfl
  | x :: xs => by simp [bls?, bls_map f xs]
theorem in_sign (c : Nat) (z : Str) : cmpD .In (.str ⟨#[c]⟩) (.str z) = some (decide (c ∈ z.cps.toList)) := by
  simp [cmpD, Str.length]
theorem notin_sign (c : Nat) (z : Str) : cmpD .NotIn (.str ⟨#[c]⟩) (.str z) = some (!decide (c ∈ z.cps.toList)) := by
  simp [cmpD, Str.length]
theorem in_tup {x : D} {ys : List D} (h : x.flat = true) (h2 : ys.all D.flat = true) : cmpD .In x (.tup ys) = some (inFlat x ys) := by
  simp only [cmpD, h, h2, Bool.and_self, if_true]
theorem in_lst {x : D} {ys : List D} (h : x.flat = true) (h2 : ys.all D.flat = true) : cmpD .In x (.lst ys) = some (inFlat x ys) := by
  simp only [cmpD, h, h2, Bool.and_self, if_true]
theorem notin_tup {x : D} {ys : List D} (h : x.flat = true) (h2 : ys.all D.flat = true) : cmpD .NotIn x (.tup ys) = some (!inFlat x ys) := by
  simp only [cmpD, h, h2, Bool.and_self, if_true]
theorem notin_lst {x : D} {ys : List D} (h : x.flat = true) (h2 : ys.all D.flat = true) : cmpD .NotIn x (.lst ys) = some (!inFlat x ys) := by
  simp only [cmpD, h, h2, Bool.and_self, if_true]
def letters : Str := "abcdefghijklmnopqrstuvwxyz"
def digits : Str := "0123456789"
/-- a name, as the text has it -/
def nmOk (x : Str) : Bool := decide (1 ≤ x.length) && decide (x.length ≤ 12) && !decide (x = "of") && !decide (x = "to") && decide (x.cps.toList.headD 0 ∈ letters.cps.toList) && x.cps.toList.all fun c => decide (c ∈ (letters ++ digits).cps.toList)
def nmComp : E := (.comp false (.n 1) (.v 0) (.cmp .In (.v 1) (.op .Add (.g "LETTERS" (.str "abcdefghijklmnopqrstuvwxyz")) (.g "DIGITS" (.str "0123456789")))))
def isNameB : Ss := (.cons (.ifs (.or (.not (.isi (.v 0) [.str])) (.or (.not (.chain .LtE .LtE (.c (.int 1)) (.bi .len (.cons (.v 0) .nil)) (.g "MOST_NAME" (.int 12)))) (.or (.cmp .In (.v 0) (.g "WORDS" (.tup [(.str "of"), (.str "to")]))) (.cmp .NotIn (.ix (.v 0) (.c (.int 0))) (.g "LETTERS" (.str "abcdefghijklmnopqrstuvwxyz")))))) (.cons (.ret (.c (.bl false))) .nil) .nil) (.cons (.ret (.bi .all (.cons nmComp .nil))) .nil))
theorem isName_ok {f : Nat} (hT : T[f]? = some ⟨1, 2, isNameB⟩) {x : Str} (h : nmOk x = true) (S : Sto) : run T w (n + 1) f [.str x] S = some (.bl true, S) := by
  simp only [nmOk, Bool.and_eq_true, decide_eq_true_eq, Bool.not_eq_true', decide_eq_false_iff_not] at h
  obtain ⟨⟨⟨⟨⟨h1, h2⟩, h3⟩, h4⟩, h5⟩, h6⟩ := h
  refine run_rts hT rfl rfl ?_
  have z0 : small x.length = true := decide_eq_true (by omega)
  have z1 : biD .len [.str x] = some (.int x.length) := by show (if _ then _ else _) = _; rw [if_pos z0]
  have z2 : cmpD .LtE (.int 1) (.int x.length) = some true := congrArg some (decide_eq_true (by omega))
  have z3 : cmpD .LtE (.int x.length) (.int 12) = some true := congrArg some (decide_eq_true (by omega))
  have z4 : cmpD .In (.str x) (.tup [.str "of", .str "to"]) = some false := by
    have e : inFlat (.str x) [.str "of", .str "to"] = false := by
      simp only [inFlat, List.any_cons, List.any_nil, eqv_str, Bool.or_false]
      rw [decide_eq_false (fun z => h3 z.symm), decide_eq_false (fun z => h4 z.symm)]
      rfl
    rw [in_tup rfl rfl, e]
  obtain ⟨c0, r, hc⟩ : ∃ c0 r, x.cps.toList = c0 :: r := by
    cases q : x.cps.toList with
    | nil =>
      have : x.length = 0 := by show x.cps.size = 0; rw [← Array.length_toList, q]; rfl
      omega
    | cons a b => exact ⟨a, b, rfl⟩
  have z5 : ixD (.str x) (.int 0) = some (.str ⟨#[c0]⟩) := by
    show (if _ then _ else _) = _
    rw [if_pos z0, hc, show (0 : Int) = ((0 : Nat) : Int) from rfl, atI_nat (by simp)]
    rfl
  rw [hc] at h5
  have z6 : cmpD .NotIn (.str ⟨#[c0]⟩) (.str "abcdefghijklmnopqrstuvwxyz") = some false := by
    rw [notin_sign]
    have e : decide (c0 ∈ letters.cps.toList) = true := decide_eq_true h5
    exact congrArg some (congrArg not e)
  have z7 : opD .Add (.str "abcdefghijklmnopqrstuvwxyz") (.str "0123456789") = some (.str (letters ++ digits)) := rfl
  have z8 : items (.str x) = some (x.cps.toList.map fun c => .str ⟨#[c]⟩) := rfl
  have z9 : ∀ c ∈ x.cps.toList, cmpD .In (.str ⟨#[c]⟩) (.str (letters ++ digits)) = some true := fun c hc => by
    rw [in_sign]
    exact congrArg some (List.all_eq_true.mp h6 c hc)
  have zl : x.cps.toList.length ≤ 12 := by rw [Array.length_toList]; exact h2
  have z10 : ev (run T w n) nmComp [some (.str x), none] S = some (.lst ((x.cps.toList.map fun c => D.str ⟨#[c]⟩).map fun _ => .bl true), S) :=
    ev_comp rfl z8 (fun d hd => by
      obtain ⟨c, hc, rfl⟩ := List.mem_map.mp hd
      refine ⟨_, rfl, ?_⟩
      simp only [wipeT, ev, see, List.set_cons_succ, List.set_cons_zero, List.getElem?_cons_zero, List.getElem?_cons_succ, z7, z9 c hc]) (by simp only [List.length_map]; omega)
  have z11 : biD .all [.lst ((x.cps.toList.map fun c => D.str ⟨#[c]⟩).map fun _ => .bl true)] = some (.bl true) := by
    show (bls? _).map _ = _
    rw [bls_map (fun _ => true)]
    simp
  simp only [isNameB, List.map_cons, List.map_nil, Nat.reduceSub, List.replicate_succ, List.replicate_zero, List.cons_append, List.nil_append, exs, ex, ev, evs, see, seeAll, List.getElem?_cons_zero, List.getElem?_cons_succ, isTy, tyOf, List.any_cons, List.any_nil, z1, z2, z3, z4, z5, z6, z8, z10, mkList, z11, beq_self_eq_true, Bool.true_or, Bool.not_true, Bool.false_eq_true, if_false]
end Iv

set_option Elab.async false
set_option linter.all false
set_option maxRecDepth 100000
set_option maxHeartbeats 4000000
namespace Iv
open PySem
variable {T : List Fn} {w n : Nat}
inductive Enc : D → Wr → Prop where
  | nm (x : Str) : Enc (.str x) (.nm x)
  | ofT {x : Str} {d : D} {b : Wr} : Enc d b → Enc (.tup [.str "of", .str x, d]) (.of x b)
  | ofL {x : Str} {d : D} {b : Wr} : Enc d b → Enc (.lst [.str "of", .str x, d]) (.of x b)
  | toT {d e : D} {a b : Wr} : Enc d a → Enc e b → Enc (.tup [.str "to", d, e]) (.to a b)
  | toL {d e : D} {a b : Wr} : Enc d a → Enc e b → Enc (.lst [.str "to", d, e]) (.to a b)
theorem enc_T : ∀ W : Wr, Enc W.enc W
  | .nm x => .nm x
  | .of _ b => .ofT (enc_T b)
  | .to a b => .toT (enc_T a) (enc_T b)
theorem enc_L : ∀ W : Wr, Enc W.encL W
  | .nm x => .nm x
  | .of _ b => .ofL (enc_L b)
  | .to a b => .toL (enc_L a) (enc_L b)
theorem ev_comp3 {F : CF} {i : Nat} {it elt : E} {ρ : Env} {S S1 : Sto} {x a b c a' b' c' : D} (h1 : ev F it ρ S = some (x, S1)) (h2 : items x = some [a, b, c])
    (ha : ev F elt ((ρ.set i none).set i (some a)) S1 = some (a', S1)) (hb : ev F elt ((ρ.set i none).set i (some b)) S1 = some (b', S1)) (hc : ev F elt ((ρ.set i none).set i (some c)) S1 = some (c', S1)) :
    ev F (.comp false (.n i) it elt) ρ S = some (.lst [a', b', c'], S1) := by
  simp only [ev, h1, h2, compRun, setT, wipeT, ha, hb, hc, List.length_nil, List.length_cons, List.length_append, small, mkList, List.nil_append, List.cons_append, Bool.false_eq_true, if_false]
  rfl

theorem see_str (S : Sto) (x : Str) : see S (.str x) = some (.str x) := rfl
theorem see_int (S : Sto) (x : Int) : see S (.int x) = some (.int x) := rfl
theorem see_bl (S : Sto) (x : Bool) : see S (.bl x) = some (.bl x) := rfl
theorem see_tup (S : Sto) (x : List D) : see S (.tup x) = some (.tup x) := rfl
theorem see_lst (S : Sto) (x : List D) : see S (.lst x) = some (.lst x) := rfl
def asTupC (self : Nat) : E := (.comp false (.n 1) (.v 0) (.call self (.cons (.v 1) .nil)))
def asTupB (self : Nat) : Ss := (.cons (.ret (.ite (.isi (.v 0) [.list, .tuple]) (.bi .tuple (.cons (asTupC self) .nil)) (.v 0))) .nil)
theorem asTup_nm {f : Nat} (hT : T[f]? = some ⟨1, 2, asTupB f⟩) (x : Str) (S : Sto) (n : Nat) (hn : 1 ≤ n) : run T w n f [.str x] S = some (.str x, S) := by
  obtain ⟨n, rfl⟩ : ∃ m, n = m + 1 := ⟨n - 1, by omega⟩
  exact run_rts hT rfl rfl rfl
theorem asTup_sq {f : Nat} (hT : T[f]? = some ⟨1, 2, asTupB f⟩) {d a b c a' b' c' : D} (hd : d = .tup [a, b, c] ∨ d = .lst [a, b, c]) {S : Sto} (ha : run T w n f [a] S = some (a', S)) (hb : run T w n f [b] S = some (b', S)) (hc : run T w n f [c] S = some (c', S)) :
    run T w (n + 1) f [d] S = some (.tup [a', b', c'], S) := by
  refine run_rts hT rfl rfl ?_
  have z : ev (run T w n) (asTupC f) [some d, none] S = some (.lst [a', b', c'], S) := by
    refine ev_comp3 (a := a) (b := b) (c := c) (x := d) rfl (by rcases hd with rfl | rfl <;> rfl) ?_ ?_ ?_
    · simp only [ev, evs, List.set_cons_succ, List.set_cons_zero, List.getElem?_cons_zero, List.getElem?_cons_succ, ha]
    · simp only [ev, evs, List.set_cons_succ, List.set_cons_zero, List.getElem?_cons_zero, List.getElem?_cons_succ, hb]
    · simp only [ev, evs, List.set_cons_succ, List.set_cons_zero, List.getElem?_cons_zero, List.getElem?_cons_succ, hc]
  have z2 : biD .tuple [.lst [a', b', c']] = some (.tup [a', b', c']) := rfl
  have z3 : [Ty.list, .tuple].any (isTy d) = true := by rcases hd with rfl | rfl <;> rfl
  have z4 : see S d = some d := by rcases hd with rfl | rfl <;> rfl
  simp only [asTupB, List.map_cons, List.map_nil, Nat.reduceSub, List.replicate_succ, List.replicate_zero, List.cons_append, List.nil_append, exs, ex, ev, evs, see_lst, seeAll, List.getElem?_cons_zero, List.getElem?_cons_succ, z, z2, z3, z4]
theorem asTup_ok {f : Nat} (hT : T[f]? = some ⟨1, 2, asTupB f⟩) {S : Sto} {d : D} {W : Wr} (h : Enc d W) : ∀ n, W.dp + 1 ≤ n → run T w n f [d] S = some (W.enc, S) := by
  induction h with
  | nm x => exact fun n hn => asTup_nm hT x S n (by omega)
  | ofT _ ih | ofL _ ih =>
    intro n hn
    simp only [Wr.dp] at hn
    obtain ⟨n, rfl⟩ : ∃ m, n = m + 1 := ⟨n - 1, by omega⟩
    exact asTup_sq hT (by first | exact .inl rfl | exact .inr rfl) (asTup_nm hT _ S n (by omega)) (asTup_nm hT _ S n (by omega)) (ih n (by omega))
  | toT _ _ ih1 ih2 | toL _ _ ih1 ih2 =>
    intro n hn
    simp only [Wr.dp] at hn
    obtain ⟨n, rfl⟩ : ∃ m, n = m + 1 := ⟨n - 1, by omega⟩
    exact asTup_sq hT (by first | exact .inl rfl | exact .inr rfl) (asTup_nm hT _ S n (by omega)) (ih1 n (by omega)) (ih2 n (by omega))

def isWrB (nm self : Nat) : Ss := (.cons (.ifs (.isi (.v 0) [.str]) (.cons (.ret (.call nm (.cons (.v 0) .nil))) .nil) .nil) (.cons (.ifs (.or (.not (.isi (.v 0) [.list, .tuple])) (.or (.cmp .NotEq (.bi .len (.cons (.v 0) .nil)) (.c (.int 3))) (.cmp .NotIn (.ix (.v 0) (.c (.int 0))) (.tup (.cons (.g "OF" (.str "of")) (.cons (.g "TO" (.str "to")) .nil)))))) (.cons (.ret (.c (.bl false))) .nil) .nil) (.cons (.ifs (.cmp .Eq (.ix (.v 0) (.c (.int 0))) (.g "OF" (.str "of"))) (.cons (.ret (.and (.call nm (.cons (.ix (.v 0) (.c (.int 1))) .nil)) (.call self (.cons (.ix (.v 0) (.c (.int 2))) .nil)))) .nil) .nil) (.cons (.ret (.and (.call self (.cons (.ix (.v 0) (.c (.int 1))) .nil)) (.call self (.cons (.ix (.v 0) (.c (.int 2))) .nil)))) .nil))))
/-- three parts, seen -/
structure Sq3 (d a b c : D) : Prop where
  s : ∀ S, see S d = some d
  str : [Ty.str].any (isTy d) = false
  sq : [Ty.list, .tuple].any (isTy d) = true
  len : biD .len [d] = some (.int 3)
  i0 : ixD d (.int 0) = some a
  i1 : ixD d (.int 1) = some b
  i2 : ixD d (.int 2) = some c
theorem sq3_T (a b c : D) : Sq3 (.tup [a, b, c]) a b c := ⟨fun _ => rfl, rfl, rfl, rfl, rfl, rfl, rfl⟩
theorem sq3_L (a b c : D) : Sq3 (.lst [a, b, c]) a b c := ⟨fun _ => rfl, rfl, rfl, rfl, rfl, rfl, rfl⟩
theorem notin_of : cmpD .NotIn (.str "of") (.tup [.str "of", .str "to"]) = some false := by rw [notin_tup rfl rfl]; simp [inFlat, eqv_str]
theorem notin_to : cmpD .NotIn (.str "to") (.tup [.str "of", .str "to"]) = some false := by rw [notin_tup rfl rfl]; simp [inFlat, eqv_str]
theorem eq_of : cmpD .Eq (.str "of") (.str "of") = some true := congrArg some (decide_eq_true rfl)
theorem eq_to : cmpD .Eq (.str "to") (.str "of") = some false := congrArg some (by decide)
theorem ne_3 : cmpD .NotEq (.int 3) (.int 3) = some false := rfl
theorem sm2 (a b : D) : small [a, b].length = true := rfl
theorem isWr_nm {f g : Nat} (h0 : T[g]? = some ⟨1, 2, isNameB⟩) (hT : T[f]? = some ⟨1, 1, isWrB g f⟩) {x : Str} (hx : nmOk x = true) (S : Sto) (n : Nat) (hn : 2 ≤ n) : run T w n f [.str x] S = some (.bl true, S) := by
  obtain ⟨n, rfl⟩ : ∃ m, n = m + 2 := ⟨n - 2, by omega⟩
  refine run_rts hT rfl rfl ?_
  have z := isName_ok (T := T) (w := w) (n := n) h0 hx S
  simp only [isWrB, List.map_cons, List.map_nil, Nat.sub_self, List.replicate_zero, List.cons_append, List.nil_append, exs, ex, ev, evs, see, List.getElem?_cons_zero, isTy, tyOf, List.any_cons, List.any_nil, beq_self_eq_true, Bool.true_or, z]
theorem isWr_of {f g : Nat} (h0 : T[g]? = some ⟨1, 2, isNameB⟩) (hT : T[f]? = some ⟨1, 1, isWrB g f⟩) {d b : D} {x : Str} (hx : nmOk x = true) (q : Sq3 d (.str "of") (.str x) b) {S : Sto} (hb : run T w (n + 1) f [b] S = some (.bl true, S)) : run T w (n + 2) f [d] S = some (.bl true, S) := by
  refine run_rts hT rfl rfl ?_
  have z := isName_ok (T := T) (w := w) (n := n) h0 hx S
  obtain ⟨q1, q2, q3, q4, q5, q6, q7⟩ := q
  simp only [isWrB, List.map_cons, List.map_nil, Nat.sub_self, List.replicate_zero, List.cons_append, List.nil_append, exs, ex, ev, evs, see_str, see_int, see_tup, q1, q2, q3, q4, q5, q6, q7, ne_3, sm2, notin_of, eq_of, seeAll, List.getElem?_cons_zero, Bool.not_true, if_true, z, hb]
theorem isWr_to {f g : Nat} (h0 : T[g]? = some ⟨1, 2, isNameB⟩) (hT : T[f]? = some ⟨1, 1, isWrB g f⟩) {d a b : D} (q : Sq3 d (.str "to") a b) {S : Sto} (ha : run T w n f [a] S = some (.bl true, S)) (hb : run T w n f [b] S = some (.bl true, S)) : run T w (n + 1) f [d] S = some (.bl true, S) := by
  refine run_rts hT rfl rfl ?_
  obtain ⟨q1, q2, q3, q4, q5, q6, q7⟩ := q
  simp only [isWrB, List.map_cons, List.map_nil, Nat.sub_self, List.replicate_zero, List.cons_append, List.nil_append, exs, ex, ev, evs, see_str, see_int, see_tup, q1, q2, q3, q4, q5, q6, q7, ne_3, sm2, notin_to, eq_to, seeAll, List.getElem?_cons_zero, Bool.not_true, if_true, ha, hb]
theorem isWr_ok {f g : Nat} (h0 : T[g]? = some ⟨1, 2, isNameB⟩) (hT : T[f]? = some ⟨1, 1, isWrB g f⟩) {S : Sto} {d : D} {W : Wr} (h : Enc d W) : (∀ x ∈ W.names, nmOk x = true) → ∀ n, W.dp + 2 ≤ n → run T w n f [d] S = some (.bl true, S) := by
  induction h with
  | nm x => exact fun hW n hn => isWr_nm h0 hT (hW x List.mem_cons_self) S n (by omega)
  | ofT _ ih | ofL _ ih =>
    intro hW n hn
    simp only [Wr.dp] at hn
    obtain ⟨n, rfl⟩ : ∃ m, n = m + 2 := ⟨n - 2, by omega⟩
    exact isWr_of h0 hT (hW _ List.mem_cons_self) (by first | exact sq3_T _ _ _ | exact sq3_L _ _ _) (ih (fun y hy => hW y (List.mem_cons_of_mem _ hy)) (n + 1) (by omega))
  | toT _ _ ih1 ih2 | toL _ _ ih1 ih2 =>
    intro hW n hn
    simp only [Wr.dp] at hn
    obtain ⟨n, rfl⟩ : ∃ m, n = m + 1 := ⟨n - 1, by omega⟩
    exact isWr_to h0 hT (by first | exact sq3_T _ _ _ | exact sq3_L _ _ _) (ih1 (fun y hy => hW y (List.mem_append_left _ hy)) n (by omega)) (ih2 (fun y hy => hW y (List.mem_append_right _ hy)) n (by omega))
def needB (wr tup : Nat) : Ss := (.cons (.ifs (.not (.call wr (.cons (.v 0) .nil))) (.cons .never .nil) .nil) (.cons (.ret (.call tup (.cons (.v 0) .nil))) .nil))
theorem need_ok {f g h k : Nat} (h0 : T[g]? = some ⟨1, 2, isNameB⟩) (h1 : T[h]? = some ⟨1, 1, isWrB g h⟩) (h2 : T[k]? = some ⟨1, 2, asTupB k⟩) (hT : T[f]? = some ⟨2, 2, needB h k⟩) {S : Sto} {d p : D} {W : Wr} (e : Enc d W) (hW : ∀ x ∈ W.names, nmOk x = true) (hn : W.dp + 2 ≤ n) :
    run T w (n + 1) f [d, p] S = some (W.enc, S) := by
  refine run_rts hT rfl rfl ?_
  have z1 := isWr_ok (w := w) h0 h1 (S := S) e hW n hn
  have z2 := asTup_ok (w := w) h2 (S := S) e n (by omega)
  simp only [needB, List.map_cons, List.map_nil, Nat.sub_self, List.replicate_zero, List.cons_append, List.nil_append, exs, ex, ev, evs, List.getElem?_cons_zero, z1, z2, Bool.not_true]

def listedC (self : Nat) : E := (.comp false (.n 1) (.v 0) (.call self (.cons (.v 1) .nil)))
def listedB (self : Nat) : Ss := (.cons (.ret (.ite (.isi (.v 0) [.str]) (.v 0) (listedC self))) .nil)
theorem listed_nm {f : Nat} (hT : T[f]? = some ⟨1, 2, listedB f⟩) (x : Str) (S : Sto) (n : Nat) (hn : 1 ≤ n) : run T w n f [.str x] S = some (.str x, S) := by
  obtain ⟨n, rfl⟩ : ∃ m, n = m + 1 := ⟨n - 1, by omega⟩
  exact run_rts hT rfl rfl rfl
theorem listed_sq {f : Nat} (hT : T[f]? = some ⟨1, 2, listedB f⟩) {a b c a' b' c' : D} {S : Sto} (ha : run T w n f [a] S = some (a', S)) (hb : run T w n f [b] S = some (b', S)) (hc : run T w n f [c] S = some (c', S)) :
    run T w (n + 1) f [.tup [a, b, c]] S = some (.lst [a', b', c'], S) := by
  refine run_rts hT rfl rfl ?_
  have z : ev (run T w n) (listedC f) [some (.tup [a, b, c]), none] S = some (.lst [a', b', c'], S) := by
    refine ev_comp3 (a := a) (b := b) (c := c) (x := .tup [a, b, c]) rfl rfl ?_ ?_ ?_
    · simp only [ev, evs, List.set_cons_succ, List.set_cons_zero, List.getElem?_cons_zero, List.getElem?_cons_succ, ha]
    · simp only [ev, evs, List.set_cons_succ, List.set_cons_zero, List.getElem?_cons_zero, List.getElem?_cons_succ, hb]
    · simp only [ev, evs, List.set_cons_succ, List.set_cons_zero, List.getElem?_cons_zero, List.getElem?_cons_succ, hc]
  have z3 : [Ty.str].any (isTy (.tup [a, b, c])) = false := rfl
  simp only [listedB, List.map_cons, List.map_nil, Nat.reduceSub, List.replicate_succ, List.replicate_zero, List.cons_append, List.nil_append, exs, ex, ev, evs, see, seeAll, List.getElem?_cons_zero, List.getElem?_cons_succ, z, z3]
theorem listed_ok {f : Nat} (hT : T[f]? = some ⟨1, 2, listedB f⟩) {S : Sto} : ∀ (W : Wr) (n : Nat), W.dp + 1 ≤ n → run T w n f [W.enc] S = some (W.encL, S)
  | .nm x, n, hn => listed_nm hT x S n (by omega)
  | .of x b, n, hn => by
    simp only [Wr.dp] at hn
    obtain ⟨n, rfl⟩ : ∃ m, n = m + 1 := ⟨n - 1, by omega⟩
    exact listed_sq hT (listed_nm hT _ S n (by omega)) (listed_nm hT _ S n (by omega)) (listed_ok hT b n (by omega))
  | .to a b, n, hn => by
    simp only [Wr.dp] at hn
    obtain ⟨n, rfl⟩ : ∃ m, n = m + 1 := ⟨n - 1, by omega⟩
    exact listed_sq hT (listed_nm hT _ S n (by omega)) (listed_ok hT a n (by omega)) (listed_ok hT b n (by omega))
def shelfE (k : Int) : E := (.comp false (.n 1) (.sl (.v 0) (.c .non) (.c (.int k))) (.bi .int (.cons (.v 1) .nil)))
def shelfB (k : Int) : Ss := (.cons (.ret (.new (.cons (shelfE k) (.cons (.c (.int 0)) (.cons (.c (.int 0)) .nil))))) .nil)
theorem shelf_ok {f k : Nat} (hT : T[f]? = some ⟨1, 2, shelfB k⟩) (hk : k ≤ 1000) (ns : List Int) : run T w (n + 1) f [.lst (ns.map D.int)] [] = some (.ref 0, [some (shelf (ns.take k) 0 0)]) := by
  have z1 : slD (.lst (ns.map D.int)) none (some (k : Int)) = some (.lst ((ns.take k).map D.int)) := by
    show some (D.lst (cutD _ _ _)) = _
    unfold cutD
    rw [HT.sIx_none, HT.sIx_nat, List.drop_zero, Nat.sub_zero, List.map_take]
    by_cases h : k ≤ ns.length
    · rw [Nat.min_eq_left (by simpa using h)]
    · rw [Nat.min_eq_right (by simp; omega), List.take_of_length_le (by simp), List.take_of_length_le (by simp; omega)]
  have z2 : ev (run T w n) (shelfE k) [some (.lst (ns.map D.int)), none] [] = some (.lst (((ns.take k).map D.int).map id), []) :=
    ev_comp (g := id) (x := .lst ((ns.take k).map D.int)) (by simp only [ev, List.getElem?_cons_zero, see, part?, z1, isNonE, isIntD, Bool.true_or, Bool.or_true, Bool.and_self, if_true]) rfl (fun d hd => by
      obtain ⟨i, _, rfl⟩ := List.mem_map.mp hd
      exact ⟨_, rfl, rfl⟩) (by simp; omega)
  rw [List.map_id] at z2
  have z3 : D.pures [.lst ((ns.take k).map D.int), .int 0, .int 0] = true := by simp only [D.pures, D.pure, pures_ints, Bool.and_self]
  rw [run_rt hT rfl (d := .ref 0) (S1 := [some (shelf (ns.take k) 0 0)])]
  · rfl
  · simp only [shelfB, List.map_cons, List.map_nil, Nat.reduceSub, List.replicate_succ, List.replicate_zero, List.cons_append, List.nil_append, exs, ex, ev, evs, z2, mkList, z3, if_true, List.length_nil, List.length_cons, small]
    rfl
end Iv

set_option Elab.async false
set_option linter.all false
set_option maxRecDepth 100000
set_option maxHeartbeats 4000000
namespace Iv
open PySem
variable {T : List Fn} {w n : Nat}
/-- the names that stand free, in order, as often as they stand -/
def Wr.occ : Wr → List Str → List Str
  | .nm x, bd => if x ∈ bd then [] else [x]
  | .of x b, bd => b.occ (bd ++ [x])
  | .to a b, bd => a.occ bd ++ b.occ bd
/-- what is new is put behind -/
def add (f : List Str) : List Str → List Str
  | [] => f
  | x :: l => add (if x ∈ f then f else f ++ [x]) l
theorem add_append : ∀ (l m f : List Str), add f (l ++ m) = add (add f l) m
  | [], _, _ => rfl
  | x :: l, m, f => by simp only [List.cons_append, add, add_append l m]
theorem add_filter (p : Str → Bool) : ∀ (l f : List Str), add (f.filter p) (l.filter p) = (add f l).filter p
  | [], _ => rfl
  | x :: l, f => by
    rw [List.filter_cons]
    cases q : p x with
    | true =>
      simp only [if_true, add]
      rw [← add_filter p l]
      congr 1
      by_cases h : x ∈ f
      · rw [if_pos h, if_pos (List.mem_filter.mpr ⟨h, q⟩)]
      · rw [if_neg h, if_neg (fun z => h (List.mem_filter.mp z).1), List.filter_append]
        simp [q]
    | false =>
      simp only [Bool.false_eq_true, if_false, add]
      rw [← add_filter p l]
      congr 1
      by_cases h : x ∈ f
      · rw [if_pos h]
      · rw [if_neg h, List.filter_append]
        simp [q]
theorem mem_add : ∀ (l f : List Str) (y : Str), y ∈ add f l ↔ y ∈ f ∨ y ∈ l
  | [], f, y => by simp [add]
  | x :: l, f, y => by
    rw [add, mem_add l]
    by_cases h : x ∈ f
    · rw [if_pos h, List.mem_cons]
      constructor
      · rintro (a | a)
        · exact .inl a
        · exact .inr (.inr a)
      · rintro (a | rfl | a)
        · exact .inl a
        · exact .inl h
        · exact .inr a
    · rw [if_neg h]
      simp [or_assoc]
theorem add_nodup : ∀ (l f : List Str), f.Nodup → (add f l).Nodup
  | [], _, h => h
  | x :: l, f, h => by
    rw [add]
    by_cases q : x ∈ f
    · rw [if_pos q]; exact add_nodup l f h
    · rw [if_neg q]
      exact add_nodup l _ (List.nodup_append.mpr ⟨h, by simp, fun a ha b hb z => by
        rw [List.mem_singleton.mp hb] at z
        exact q (z ▸ ha)⟩)
theorem add_length : ∀ (l f : List Str), (add f l).length ≤ f.length + l.length
  | [], _ => Nat.le_refl _
  | x :: l, f => by
    rw [add]
    have h := add_length l (if x ∈ f then f else f ++ [x])
    have h2 : (if x ∈ f then f else f ++ [x]).length ≤ f.length + 1 := by split <;> simp
    simp only [List.length_cons]
    omega
/-- behind f: what is in l and not in f -/
theorem add_split_r : ∀ (r f : List Str), add f r.reverse = f ++ (add [] r.reverse).filter fun x => decide (x ∉ f)
  | [], f => by simp [add]
  | x :: r, f => by
    have ih := add_split_r r f
    rw [List.reverse_cons]
    generalize r.reverse = l at ih ⊢
    have e : ∀ g : List Str, add g (l ++ [x]) = if x ∈ add g l then add g l else add g l ++ [x] := fun g => by rw [add_append]; rfl
    rw [e, e]
    by_cases h1 : x ∈ l
    · rw [if_pos ((mem_add l f x).mpr (.inr h1)), if_pos ((mem_add l [] x).mpr (.inr h1)), ih]
    · by_cases h2 : x ∈ f
      · rw [if_pos ((mem_add l f x).mpr (.inl h2)), if_neg (fun z => h1 (((mem_add l [] x).mp z).resolve_left (by simp))), ih, List.filter_append]
        simp [h2]
      · rw [if_neg (fun z => ((mem_add l f x).mp z).elim h2 h1), if_neg (fun z => h1 (((mem_add l [] x).mp z).resolve_left (by simp))), ih, List.filter_append]
        simp [h2]
theorem add_split (l f : List Str) : add f l = f ++ (add [] l).filter fun x => decide (x ∉ f) := by
  have h := add_split_r l.reverse f
  rw [List.reverse_reverse] at h
  exact h
theorem Wr.occ_filter : ∀ (W : Wr) (bd : List Str), W.occ bd = (W.occ []).filter fun x => decide (x ∉ bd)
  | .nm x, bd => by
    by_cases h : x ∈ bd <;> simp [Wr.occ, h]
  | .of x b, bd => by
    rw [Wr.occ, Wr.occ, occ_filter b (bd ++ [x]), occ_filter b ([] ++ [x]), List.filter_filter]
    congr 1
    funext y
    by_cases h1 : y ∈ bd <;> by_cases h2 : y = x <;> simp [h1, h2]
  | .to a b, bd => by
    rw [Wr.occ, Wr.occ, occ_filter a bd, occ_filter b bd, List.filter_append]
/-- the free names, each once -/
def Wr.fr (W : Wr) : List Str := add [] (W.occ [])
theorem fr_nm (x : Str) : (Wr.nm x).fr = [x] := by simp [Wr.fr, Wr.occ, add]
theorem fr_of (x : Str) (b : Wr) : (Wr.of x b).fr = b.fr.filter fun y => decide (y ≠ x) := by
  unfold Wr.fr
  rw [Wr.occ, Wr.occ_filter, ← add_filter]
  congr 2
  funext y
  simp
theorem fr_to (a b : Wr) : (Wr.to a b).fr = a.fr ++ b.fr.filter fun y => decide (y ∉ a.fr) := by
  unfold Wr.fr
  rw [Wr.occ, add_append, add_split]
theorem occ_len : ∀ (W : Wr) (bd : List Str), (W.occ bd).length ≤ W.size
  | .nm x, bd => by simp only [Wr.occ, Wr.size]; split <;> simp
  | .of x b, bd => by simp only [Wr.occ, Wr.size]; have := occ_len b (bd ++ [x]); omega
  | .to a b, bd => by simp only [Wr.occ, Wr.size, List.length_append]; have := occ_len a bd; have := occ_len b bd; omega
theorem occ_names : ∀ (W : Wr) (bd : List Str), ∀ x ∈ W.occ bd, x ∈ W.names
  | .nm x, bd, y, h => by
    simp only [Wr.occ] at h
    split at h
    · simp at h
    · exact h
  | .of x b, bd, y, h => List.mem_cons_of_mem _ (occ_names b _ y h)
  | .to a b, bd, y, h => by
    rcases List.mem_append.mp h with h | h
    · exact List.mem_append_left _ (occ_names a _ y h)
    · exact List.mem_append_right _ (occ_names b _ y h)
theorem fr_len (W : Wr) : W.fr.length ≤ W.size := by
  have h1 := add_length (W.occ []) []
  have h2 := occ_len W []
  simp only [List.length_nil] at h1
  unfold Wr.fr
  omega
theorem fr_names (W : Wr) : ∀ x ∈ W.fr, x ∈ W.names := fun x h => occ_names W [] x (((mem_add _ _ _).mp h).resolve_left (by simp))
theorem fr_nodup (W : Wr) : W.fr.Nodup := add_nodup _ _ List.nodup_nil

theorem inFlat_strs (x : Str) : ∀ l : List Str, inFlat (.str x) (l.map D.str) = decide (x ∈ l)
  | [] => rfl
  | y :: l => by
    have ih := inFlat_strs x l
    unfold inFlat at ih ⊢
    rw [List.map_cons, List.any_cons, ih, eqv_str]
    by_cases h1 : y = x <;> by_cases h2 : x ∈ l <;> simp [h1, h2, eq_comm]
    · exact fun z => h1 z.symm
theorem flats_strs : ∀ l : List Str, (l.map D.str).all D.flat = true
  | [] => rfl
  | _ :: l => by rw [List.map_cons, List.all_cons, flats_strs l]; rfl
theorem notin_strs (x : Str) (l : List Str) : cmpD .NotIn (.str x) (.lst (l.map D.str)) = some (!decide (x ∈ l)) := by
  rw [notin_lst rfl (flats_strs l), inFlat_strs]
theorem notin_strsT (x : Str) (l : List Str) : cmpD .NotIn (.str x) (.tup (l.map D.str)) = some (!decide (x ∈ l)) := by
  rw [notin_tup rfl (flats_strs l), inFlat_strs]
def gathN : Ss := (.cons (.ifs (.and (.cmp .NotIn (.v 0) (.v 1)) (.cmp .NotIn (.v 0) (.v 2))) (.cons (.ex (.meth .append (.v 2) (.cons (.v 0) .nil))) .nil) .nil) .nil)
def gathO (self : Nat) : Ss := (.cons (.ex (.call self (.cons (.ix (.v 0) (.c (.int 2))) (.cons (.lst (.star (.v 1) (.cons (.ix (.v 0) (.c (.int 1))) .nil))) (.cons (.v 2) .nil))))) .nil)
def gathT (self : Nat) : Ss := (.cons (.ex (.call self (.cons (.ix (.v 0) (.c (.int 1))) (.cons (.v 1) (.cons (.v 2) .nil))))) (.cons (.ex (.call self (.cons (.ix (.v 0) (.c (.int 2))) (.cons (.v 1) (.cons (.v 2) .nil))))) .nil))
def gathB (self : Nat) : Ss := (.cons (.ifs (.isi (.v 0) [.str]) gathN (.cons (.ifs (.cmp .Eq (.ix (.v 0) (.c (.int 0))) (.g "OF" (.str "of"))) (gathO self) (gathT self)) .nil)) .nil)
theorem gath_ok {f : Nat} (hT : T[f]? = some ⟨3, 3, gathB f⟩) {j : Nat} : ∀ (W : Wr) (n : Nat) (bd fd : List Str) (S : Sto), W.dp + 1 ≤ n → S[j]? = some (some (fd.map D.str)) → fd.length + W.size ≤ 50000 → bd.length + W.size ≤ 50000 →
    run T w n f [W.enc, .lst (bd.map D.str), .ref j] S = some (.non, S.set j (some ((add fd (W.occ bd)).map D.str)))
  | .nm x, n, bd, fd, S, hn, hS, h1, h2 => by
    obtain ⟨n, rfl⟩ : ∃ m, n = m + 1 := ⟨n - 1, by omega⟩
    have hj : j < S.length := (List.getElem?_eq_some_iff.mp hS).1
    have hset : S.set j (some (fd.map D.str)) = S := by
      apply List.ext_getElem?
      intro i
      rw [List.getElem?_set]
      split
      · rename_i h; subst h; exact hS.symm
      · rfl
    refine run_nxs (ρ := [some (.str x), some (.lst (bd.map D.str)), some (.ref j)]) hT rfl (by simp) ?_
    have z0 : [Ty.str].any (isTy (.str x)) = true := rfl
    have z1 := notin_strs x bd
    have z2 := notin_strs x fd
    simp only [gathB, Wr.enc, List.map_cons, List.map_nil, Nat.sub_self, List.replicate_zero, List.append_nil, List.cons_append, List.nil_append, exs, ex, ev, see_str, List.getElem?_cons_zero, z0]
    by_cases q1 : x ∈ bd
    · simp only [gathN, exs, ex, ev, evs, see_str, see_lst, List.getElem?_cons_zero, List.getElem?_cons_succ, z1, q1, decide_true, Bool.not_true, Wr.occ, if_true, add, hset]
    · by_cases q2 : x ∈ fd
      · simp only [gathN, exs, ex, ev, evs, see_str, see_lst, see, hS, List.getElem?_cons_zero, List.getElem?_cons_succ, z1, z2, q1, q2, decide_true, decide_false, Bool.not_true, Bool.not_false, Wr.occ, if_true, if_false, add, hset]
      · simp only [Wr.size] at h1
        simp only [gathN, exs, ex, ev, evs, see_str, see_lst, see, hS, List.getElem?_cons_zero, List.getElem?_cons_succ, z1, z2, q1, q2, decide_true, decide_false, Bool.not_true, Bool.not_false, Wr.occ, if_true, if_false, add, hset, Option.isSome_some, meD, D.pure, List.length_map, small, show fd.length + 1 ≤ 100000 by omega, Bool.and_self, List.map_append, List.map_cons, List.map_nil]
  | .of x b, n, bd, fd, S, hn, hS, h1, h2 => by
    simp only [Wr.dp] at hn
    simp only [Wr.size] at h1 h2
    obtain ⟨n, rfl⟩ : ∃ m, n = m + 1 := ⟨n - 1, by omega⟩
    refine run_nxs (ρ := [some (Wr.of x b).enc, some (.lst (bd.map D.str)), some (.ref j)]) hT rfl (by simp) ?_
    obtain ⟨q1, q2, q3, q4, q5, q6, q7⟩ := sq3_T (.str "of") (.str x) b.enc
    have ih := gath_ok (j := j) hT b n (bd ++ [x]) fd S (by omega) hS (by omega) (by simp; omega)
    rw [List.map_append, List.map_cons, List.map_nil] at ih
    have z : small (bd.map D.str ++ [D.str x]).length = true := decide_eq_true (by simp; omega)
    simp only [gathB, gathO, Wr.enc, List.map_cons, List.map_nil, Nat.sub_self, List.replicate_zero, List.append_nil, List.cons_append, List.nil_append, exs, ex, ev, evs, see_str, see_lst, q1, q2, q5, q6, q7, List.getElem?_cons_zero, List.getElem?_cons_succ, eq_of, z, if_true, ih, Wr.occ]
  | .to a b, n, bd, fd, S, hn, hS, h1, h2 => by
    simp only [Wr.dp] at hn
    simp only [Wr.size] at h1 h2
    obtain ⟨n, rfl⟩ : ∃ m, n = m + 1 := ⟨n - 1, by omega⟩
    have hj : j < S.length := (List.getElem?_eq_some_iff.mp hS).1
    refine run_nxs (ρ := [some (Wr.to a b).enc, some (.lst (bd.map D.str)), some (.ref j)]) hT rfl (by simp) ?_
    obtain ⟨q1, q2, q3, q4, q5, q6, q7⟩ := sq3_T (.str "to") a.enc b.enc
    have ih1 := gath_ok (j := j) hT a n bd fd S (by omega) hS (by omega) (by omega)
    have hl := add_length (a.occ bd) fd
    have hl2 := occ_len a bd
    have ih2 := gath_ok (j := j) hT b n bd (add fd (a.occ bd)) (S.set j (some ((add fd (a.occ bd)).map D.str))) (by omega) (by simp [List.getElem?_set, hj]) (by omega) (by omega)
    rw [List.set_set] at ih2
    simp only [gathB, gathT, Wr.enc, List.map_cons, List.map_nil, Nat.sub_self, List.replicate_zero, List.append_nil, List.cons_append, List.nil_append, exs, ex, ev, evs, see_str, see_lst, q1, q2, q5, q6, q7, List.getElem?_cons_zero, List.getElem?_cons_succ, eq_to, if_true, ih1, ih2, Wr.occ, add_append]

def freeInB (g : Nat) : Ss := (.cons (.asg (.n 1) (.new .nil)) (.cons (.ex (.call g (.cons (.v 0) (.cons (.lst .nil) (.cons (.v 1) .nil))))) (.cons (.ret (.frz 1)) .nil)))
theorem set_last {α : Type} (S : List α) (x y : α) : (S ++ [x]).set S.length y = S ++ [y] := by
  rw [List.set_append_right _ _ (Nat.le_refl _)]
  simp
theorem pures_strs : ∀ l : List Str, D.pures (l.map D.str) = true
  | [] => rfl
  | _ :: l => by simp only [List.map_cons, D.pures, D.pure, pures_strs l, Bool.and_self]
theorem freeIn_ok {f g : Nat} (h1 : T[g]? = some ⟨3, 3, gathB g⟩) (hT : T[f]? = some ⟨1, 2, freeInB g⟩) (W : Wr) (S : Sto) (hn : W.dp + 1 ≤ n) (hs : W.size ≤ 10000) : run T w (n + 1) f [W.enc] S = some (.lst (W.fr.map D.str), S) := by
  have e := gath_ok (w := w) h1 (j := S.length) W n [] [] (S ++ [some []]) hn (by simp) (by simpa using (show W.size ≤ 50000 by omega)) (by simpa using (show W.size ≤ 50000 by omega))
  rw [set_last] at e
  rw [run_rt hT rfl (d := .lst (W.fr.map D.str)) (S1 := S ++ [none])]
  · have hp : D.pure (.lst (W.fr.map D.str)) = true := pures_strs _
    simp [leave, hp]
  · have e' : run T w n g [W.enc, .lst [], .ref S.length] (S ++ [some []]) = _ := e
    simp only [freeInB, List.map_cons, List.map_nil, Nat.reduceSub, List.replicate_succ, List.replicate_zero, List.cons_append, List.nil_append, exs, ex, ev, evs, setT, List.set_cons_succ, List.set_cons_zero, mkList, D.pures, if_true, List.length_nil, small, Nat.zero_le, decide_true, List.getElem?_cons_zero, List.getElem?_cons_succ, e', List.getElem?_append_right (Nat.le_refl _), Nat.sub_self, set_last, Wr.fr]
def freeNmB (need fin : Nat) : Ss := (.cons (.ret (.bi .tuple (.cons (.call fin (.cons (.call need (.cons (.v 0) (.cons (.c (.str "writing")) .nil))) .nil)) .nil))) .nil)
/-- the defs up to free_names -/
structure Free (T : List Fn) (w f : Nat) : Prop where
  ok : ∀ (n : Nat) (d : D) (W : Wr) (S : Sto), Enc d W → (∀ x ∈ W.names, nmOk x = true) → W.dp + 4 ≤ n → W.size ≤ 10000 → run T w n f [d] S = some (.tup (W.fr.map D.str), S)
theorem free_of {f g i n0 w0 t0 nd : Nat} (a0 : T[n0]? = some ⟨1, 2, isNameB⟩) (a1 : T[w0]? = some ⟨1, 1, isWrB n0 w0⟩) (a2 : T[t0]? = some ⟨1, 2, asTupB t0⟩) (a3 : T[nd]? = some ⟨2, 2, needB w0 t0⟩) (a4 : T[g]? = some ⟨3, 3, gathB g⟩) (a5 : T[i]? = some ⟨1, 2, freeInB g⟩) (a6 : T[f]? = some ⟨1, 1, freeNmB nd i⟩) : Free T w f := by
  refine ⟨fun n d W S e hW hn hs => ?_⟩
  obtain ⟨n, rfl⟩ : ∃ m, n = m + 2 := ⟨n - 2, by omega⟩
  have z1 := need_ok (w := w) (n := n) a0 a1 a2 a3 (S := S) (p := .str "writing") e hW (by omega)
  have z2 := freeIn_ok (w := w) (n := n) a4 a5 W S (by omega) hs
  refine run_rts a6 rfl rfl ?_
  have z3 : biD .tuple [.lst (W.fr.map D.str)] = some (.tup (W.fr.map D.str)) := rfl
  simp only [freeNmB, List.map_cons, List.map_nil, Nat.sub_self, List.replicate_zero, List.append_nil, exs, ex, ev, evs, seeAll, see_lst, List.getElem?_cons_zero, z1, z2, z3]
end Iv

set_option Elab.async false
set_option linter.all false
set_option maxRecDepth 100000
set_option maxHeartbeats 4000000
namespace Iv
open PySem
variable {T : List Fn} {w n : Nat}
theorem letters_small : ∀ c ∈ (letters ++ digits).cps.toList, c < 128 := by decide
theorem nm_signs {x : Str} (h : nmOk x = true) : x.length ≤ 12 ∧ ∀ c ∈ x.cps.toList, c < 128 := by
  simp only [nmOk, Bool.and_eq_true, decide_eq_true_eq, List.all_eq_true] at h
  exact ⟨h.1.1.1.1.2, fun c hc => letters_small c (h.2 c hc)⟩
theorem nm_lay {x : Str} (h : nmOk x = true) : PyData.strOk x = true := by
  unfold PyData.strOk
  rw [← Array.all_toList, List.all_eq_true]
  intro c hc
  have := (nm_signs h).2 c hc
  exact decide_eq_true (by omega)
theorem pys_strs : ∀ l : List Str, D.pys (l.map D.str) = l.map PyData.str
  | [] => rfl
  | _ :: l => by simp only [List.map_cons, D.pys, D.py, pys_strs l]
theorem lay_strs : ∀ l : List Str, (∀ x ∈ l, nmOk x = true) → PyData.canLayAll0 (l.map PyData.str) = true
  | [], _ => rfl
  | x :: l, h => by simp only [List.map_cons, PyData.canLayAll0, PyData.canLay0, nm_lay (h x List.mem_cons_self), lay_strs l (fun y hy => h y (List.mem_cons_of_mem _ hy)), Bool.and_self]
theorem depth_strs : ∀ l : List Str, PyData.depthAll (l.map PyData.str) = 0
  | [] => rfl
  | _ :: l => by simp only [List.map_cons, PyData.depthAll, PyData.depth, depth_strs l, Nat.max_self]
theorem show_strs : ∀ l : List Str, PyData.showableAll (l.map PyData.str) = true
  | [] => rfl
  | _ :: l => by simp only [List.map_cons, PyData.showableAll, PyData.showable, show_strs l, Bool.and_self]
theorem ok_strs {l : List Str} (h : ∀ x ∈ l, nmOk x = true) : D.ok (.tup (l.map D.str)) = true := by
  simp only [D.ok, D.pure, D.py, PyData.canLay0, PyData.depth, pures_strs, pys_strs, lay_strs l h, depth_strs, Bool.and_self]
  rfl
theorem okL_strs {l : List Str} (h : ∀ x ∈ l, nmOk x = true) : D.ok (.lst (l.map D.str)) = true := by
  simp only [D.ok, D.pure, D.py, PyData.canLay0, PyData.depth, pures_strs, pys_strs, lay_strs l h, depth_strs, Bool.and_self]
  rfl
theorem eqvAll_strs : ∀ a b : List Str, PyData.eqvAll (a.map PyData.str) (b.map PyData.str) = decide (a = b)
  | [], [] => by simp [PyData.eqvAll]
  | [], _ :: _ => by simp [PyData.eqvAll]
  | _ :: _, [] => by simp [PyData.eqvAll]
  | x :: a, y :: b => by
    simp only [List.map_cons, PyData.eqvAll, PyData.eqv, eqvAll_strs a b]
    by_cases h1 : x = y <;> by_cases h2 : a = b <;> simp [h1, h2]
theorem eqv_strsT (a b : List Str) : D.eqv (.tup (a.map D.str)) (.tup (b.map D.str)) = decide (a = b) := by
  simp only [D.eqv, D.py, PyData.eqv, pys_strs, eqvAll_strs]
theorem eq_strsT {a b : List Str} (ha : ∀ x ∈ a, nmOk x = true) (hb : ∀ x ∈ b, nmOk x = true) : cmpD .Eq (.tup (a.map D.str)) (.tup (b.map D.str)) = some (decide (a = b)) := by
  show (if _ then _ else _) = _
  rw [if_pos (by rw [ok_strs ha, ok_strs hb]; rfl), eqv_strsT]
theorem ne_strsT {a b : List Str} (ha : ∀ x ∈ a, nmOk x = true) (hb : ∀ x ∈ b, nmOk x = true) : cmpD .NotEq (.tup (a.map D.str)) (.tup (b.map D.str)) = some (!decide (a = b)) := by
  show (if _ then _ else _) = _
  rw [if_pos (by rw [ok_strs ha, ok_strs hb]; rfl), eqv_strsT]
theorem piled_strs : ∀ l : List Str, (∀ x ∈ l, nmOk x = true) → piled (PyData.shownAll (l.map PyData.str)) ≤ 124 * l.length
  | [], _ => Nat.le_refl _
  | x :: l, h => by
    have h1 := nm_signs (h x List.mem_cons_self)
    have h2 := StrLaws.reprText_len x fun c hc => by have := h1.2 c hc; omega
    have ih := piled_strs l fun y hy => h y (List.mem_cons_of_mem _ hy)
    simp only [List.map_cons, PyData.shownAll, PyData.shown, piled_cons, List.length_cons]
    omega
theorem shows_strs {l : List Str} (h : ∀ x ∈ l, nmOk x = true) (hl : l.length ≤ 700) : D.shows (.tup (l.map D.str)) = true := by
  have e : (PyData.tuple (l.map PyData.str)).shown.length ≤ 100000 := by
    show (tupleText (PyData.shownAll (l.map PyData.str))).length ≤ _
    have hp := piled_strs l h
    have h3 : ∀ b : Bool, ((if b then ",)" else ")" : String) : Str).length ≤ 2 := by decide
    unfold tupleText
    rw [strLen_append, strLen_append]
    have e1 : ((("(" : String) : Str)).length = 1 := rfl
    have e2 := h3 ((PyData.shownAll (l.map PyData.str)).length == 1)
    cases q : PyData.shownAll (l.map PyData.str) with
    | nil =>
      have : (Str.join ", " ([] : List Str)).length = 0 := rfl
      rw [q] at e2
      omega
    | cons a b =>
      have hj := join_length_add (a :: b) (by simp)
      rw [q] at hp e2
      omega
  simp only [D.shows, D.pure, D.py, PyData.canLay0, PyData.depth, PyData.showable, pures_strs, pys_strs, lay_strs l h, depth_strs, show_strs, Bool.and_self, e, decide_true]
  rfl
theorem repr_strs {l : List Str} (h : ∀ x ∈ l, nmOk x = true) (hl : l.length ≤ 700) : biD .repr [.tup (l.map D.str)] = some (.str (D.py (.tup (l.map D.str))).shown) := by
  show (if _ then _ else _) = _
  rw [if_pos (shows_strs h hl)]

theorem enc_lay : ∀ W : Wr, (∀ x ∈ W.names, nmOk x = true) → W.enc.py.canLay0 = true ∧ W.enc.py.depth ≤ W.dp
  | .nm x, h => ⟨nm_lay (h x List.mem_cons_self), Nat.le_refl _⟩
  | .of x b, h => by
    obtain ⟨i1, i2⟩ := enc_lay b fun y hy => h y (List.mem_cons_of_mem _ hy)
    have hx := nm_lay (h x List.mem_cons_self)
    have ho : PyData.strOk "of" = true := by decide +kernel
    refine ⟨by simp only [Wr.enc, D.py, D.pys, PyData.canLay0, PyData.canLayAll0, ho, hx, i1, Bool.and_self], ?_⟩
    simp only [Wr.enc, D.py, D.pys, PyData.depth, PyData.depthAll, Wr.dp]
    omega
  | .to a b, h => by
    obtain ⟨i1, i2⟩ := enc_lay a fun y hy => h y (List.mem_append_left _ hy)
    obtain ⟨j1, j2⟩ := enc_lay b fun y hy => h y (List.mem_append_right _ hy)
    have ho : PyData.strOk "to" = true := by decide +kernel
    refine ⟨by simp only [Wr.enc, D.py, D.pys, PyData.canLay0, PyData.canLayAll0, ho, i1, j1, Bool.and_self], ?_⟩
    simp only [Wr.enc, D.py, D.pys, PyData.depth, PyData.depthAll, Wr.dp]
    omega
/-- a part with the names around it -/
def itm (t : Wr × List Str) : D := .tup [t.1.enc, .lst (t.2.map D.str)]
/-- what stands on the stack -/
structure TOk (t : Wr × List Str) : Prop where
  nm : ∀ x ∈ t.1.names, nmOk x = true
  ar : ∀ x ∈ t.2, nmOk x = true
  dp : t.1.dp ≤ 150
  le : t.2.length + t.1.size ≤ 5000
theorem itms_ok : ∀ ts : List (Wr × List Str), (∀ t ∈ ts, TOk t) → D.pures (ts.map itm) = true ∧ PyData.canLayAll0 (D.pys (ts.map itm)) = true ∧ PyData.depthAll (D.pys (ts.map itm)) ≤ 152
  | [], _ => ⟨rfl, rfl, Nat.zero_le _⟩
  | t :: ts, h => by
    obtain ⟨i1, i2, i3⟩ := itms_ok ts fun u hu => h u (List.mem_cons_of_mem _ hu)
    obtain ⟨h1, h2, h3, h4⟩ := h t List.mem_cons_self
    obtain ⟨j1, j2⟩ := enc_lay t.1 h1
    refine ⟨by simp only [List.map_cons, D.pures, itm, D.pure, t.1.pure_enc, pures_strs, i1, Bool.and_self], by simp only [List.map_cons, D.pys, itm, D.py, PyData.canLayAll0, PyData.canLay0, j1, pys_strs, lay_strs _ h2, i2, Bool.and_self], ?_⟩
    simp only [List.map_cons, D.pys, itm, D.py, PyData.depthAll, PyData.depth, pys_strs, depth_strs]
    omega
theorem stack_ok {ts : List (Wr × List Str)} (h : ∀ t ∈ ts, TOk t) : cmpD .NotEq (.lst (ts.map itm)) (.lst []) = some (!ts.isEmpty) := by
  obtain ⟨i1, i2, i3⟩ := itms_ok ts h
  have e : D.ok (.lst (ts.map itm)) = true := by
    simp only [D.ok, D.pure, D.py, PyData.canLay0, PyData.depth, i1, i2, Bool.and_self, Bool.true_and]
    exact decide_eq_true (by omega)
  show (if _ then _ else _) = _
  rw [if_pos (by rw [e, ok_nil]; rfl), eqv_nil]
  cases ts <;> rfl
def scN : Ss := (.cons (.ifs (.cmp .NotIn (.v 3) (.op .Add (.v 4) (.v 2))) (.cons (.ex (.meth .append (.v 2) (.cons (.v 3) .nil))) .nil) .nil) .nil)
def scO : Ss := (.cons (.ex (.meth .append (.v 1) (.cons (.tup (.cons (.ix (.v 3) (.c (.int 2))) (.cons (.op .Add (.v 4) (.lst (.cons (.ix (.v 3) (.c (.int 1))) .nil))) .nil))) .nil))) .nil)
def scT : Ss := (.cons (.ex (.meth .extend (.v 1) (.cons (.lst (.cons (.tup (.cons (.ix (.v 3) (.c (.int 2))) (.cons (.v 4) .nil))) (.cons (.tup (.cons (.ix (.v 3) (.c (.int 1))) (.cons (.v 4) .nil))) .nil))) .nil))) .nil)
def scB : Ss := (.cons (.asg (.t [3, 4]) (.meth .pop (.v 1) .nil)) (.cons (.ifs (.isi (.v 3) [.str]) scN (.cons (.ifs (.cmp .Eq (.ix (.v 3) (.c (.int 0))) (.c (.str "of"))) scO scT) .nil)) .nil))
def scC : E := (.cmp .NotEq (.v 1) (.lst .nil))
def scannedB : Ss := (.cons (.par [1, 2] (.cons (.new (.cons (.tup (.cons (.v 0) (.cons (.lst .nil) .nil))) .nil)) (.cons (.new .nil) .nil))) (.cons (.wh scC scB) (.cons (.ret (.frz 2)) .nil)))
/-- the stack, its top first -/
def stk (ts : List (Wr × List Str)) : List D := ts.reverse.map itm
theorem stk_cons (t : Wr × List Str) (ts : List (Wr × List Str)) : stk (t :: ts) = stk ts ++ [itm t] := by simp [stk]
def wt : List (Wr × List Str) → Nat
  | [] => 0
  | t :: ts => t.1.size + wt ts
theorem wt_len : ∀ ts : List (Wr × List Str), ts.length ≤ wt ts
  | [] => Nat.le_refl _
  | t :: ts => by have := wt_len ts; have := t.1.size_pos; simp only [wt, List.length_cons]; omega
def proc : List (Wr × List Str) → List Str → List Str
  | [], fd => fd
  | t :: ts, fd => proc ts (add fd (t.1.occ t.2))
theorem idx_p (S : Sto) (a b : Option (List D)) : (S ++ [a, b])[S.length]? = some a := by simp
theorem idx_q (S : Sto) (a b : Option (List D)) : (S ++ [a, b])[S.length + 1]? = some b := by simp
theorem set_p (S : Sto) (a b c : Option (List D)) : (S ++ [a, b]).set S.length c = S ++ [c, b] := by
  rw [List.set_append_right _ _ (Nat.le_refl _)]; simp
theorem set_q (S : Sto) (a b c : Option (List D)) : (S ++ [a, b]).set (S.length + 1) c = S ++ [a, c] := by
  rw [List.set_append_right _ _ (by omega)]; simp
theorem stk_ok {ts : List (Wr × List Str)} (h : ∀ t ∈ ts, TOk t) : cmpD .NotEq (.lst (stk ts)) (.lst []) = some (!ts.isEmpty) := by
  unfold stk
  rw [stack_ok (fun t ht => h t (List.mem_reverse.mp ht))]
  cases ts <;> simp
theorem stk_len (ts : List (Wr × List Str)) : (stk ts).length = ts.length := by simp [stk]
theorem pop_ok (ts : List (Wr × List Str)) (t : Wr × List Str) (S : Sto) (b : Option (List D)) : meD .pop (.ref S.length) [] (S ++ [some (stk (t :: ts)), b]) = some (itm t, S ++ [some (stk ts), b]) := by
  simp only [meD, idx_p, stk_cons, List.length_append, List.length_cons, List.length_nil, Nat.add_sub_cancel, set_p, List.dropLast_concat]
  simp
/-- a turn of the loop -/
theorem sc_turn {F : CF} {x0 : D} {t : Wr × List Str} {ts : List (Wr × List Str)} {fd : List Str} {S : Sto} {y3 y4 : Option D} (ht : TOk t) (hts : ∀ u ∈ ts, TOk u) (hl : fd.length + wt (t :: ts) ≤ 20000) :
    ∃ (us : List (Wr × List Str)) (fd' : List Str), (∀ u ∈ us, TOk u) ∧ wt us < wt (t :: ts) ∧ fd'.length + wt us ≤ 20000 ∧ proc us fd' = proc (t :: ts) fd ∧
      exs F w scB [some x0, some (.ref S.length), some (.ref (S.length + 1)), y3, y4] (S ++ [some (stk (t :: ts)), some (fd.map D.str)]) =
        some (.nx [some x0, some (.ref S.length), some (.ref (S.length + 1)), some t.1.enc, some (.lst (t.2.map D.str))], S ++ [some (stk us), some (fd'.map D.str)]) := by
  obtain ⟨W, ar⟩ := t
  obtain ⟨h1, h2, h3, h4⟩ := ht
  have hp := pop_ok ts (W, ar) S (some (fd.map D.str))
  have hw := wt_len ts
  have hsz := W.size_pos
  simp only [wt] at hl
  have hset : setT (.t [3, 4]) (itm (W, ar)) [some x0, some (.ref S.length), some (.ref (S.length + 1)), y3, y4] = some [some x0, some (.ref S.length), some (.ref (S.length + 1)), some W.enc, some (.lst (ar.map D.str))] := rfl
  have base : ∀ {o}, exs F w (.cons (.ifs (.isi (.v 3) [.str]) scN (.cons (.ifs (.cmp .Eq (.ix (.v 3) (.c (.int 0))) (.c (.str "of"))) scO scT) .nil)) .nil) [some x0, some (.ref S.length), some (.ref (S.length + 1)), some W.enc, some (.lst (ar.map D.str))] (S ++ [some (stk ts), some (fd.map D.str)]) = o →
      exs F w scB [some x0, some (.ref S.length), some (.ref (S.length + 1)), y3, y4] (S ++ [some (stk ((W, ar) :: ts)), some (fd.map D.str)]) = o := fun e => by
    rw [← e]
    have hs : (see (S ++ [some (stk ((W, ar) :: ts)), some (fd.map D.str)]) (.ref S.length)).isSome = true := by simp only [see, idx_p, Option.isSome_some]
    simp only [scB, exs, ex, ev, evs, List.getElem?_cons_zero, List.getElem?_cons_succ, hs, if_true, hp, hset]
  cases W with
  | nm x =>
    have z0 : [Ty.str].any (isTy (.str x)) = true := rfl
    simp only [Wr.size] at hl
    have h4' : ar.length + 1 ≤ 5000 := h4
    have z1 : opD .Add (.lst (ar.map D.str)) (.lst (fd.map D.str)) = some (.lst ((ar ++ fd).map D.str)) := by
      show (if _ then _ else _) = _
      rw [if_pos (by simp only [List.length_map, small, decide_eq_true_eq]; omega), List.map_append]
    have z2 := notin_strs x (ar ++ fd)
    have z3 : see (S ++ [some (stk ts), some (fd.map D.str)]) (.ref (S.length + 1)) = some (.lst (fd.map D.str)) := by simp only [see, idx_q]
    by_cases q : x ∈ ar ++ fd
    · refine ⟨ts, fd, hts, by simp only [wt, Wr.size]; omega, by omega, ?_, base ?_⟩
      · simp only [proc, Wr.occ]
        by_cases q1 : x ∈ ar
        · rw [if_pos q1]; rfl
        · rw [if_neg q1, add, if_pos ((List.mem_append.mp q).resolve_left q1)]; rfl
      · rw [decide_eq_true q] at z2
        simp only [exs, ex, ev, Wr.enc, see_str, see_lst, List.getElem?_cons_zero, List.getElem?_cons_succ, z0, scN, z3, z1, z2, Bool.not_true]
    · refine ⟨ts, fd ++ [x], hts, by simp only [wt, Wr.size]; omega, by simp only [List.length_append, List.length_cons, List.length_nil]; omega, ?_, base ?_⟩
      · simp only [proc, Wr.occ]
        rw [if_neg (fun z => q (List.mem_append_left _ z)), add, if_neg (fun z => q (List.mem_append_right _ z))]
        rfl
      · rw [decide_eq_false q] at z2
        have z4 : meD .append (.ref (S.length + 1)) [.str x] (S ++ [some (stk ts), some (fd.map D.str)]) = some (.non, S ++ [some (stk ts), some ((fd ++ [x]).map D.str)]) := by
          simp only [meD, idx_q, D.pure, List.length_map, small, show fd.length + 1 ≤ 100000 by omega, decide_true, Bool.and_self, if_true, set_q, List.map_append, List.map_cons, List.map_nil]
        simp only [exs, ex, ev, evs, Wr.enc, see_str, see_lst, List.getElem?_cons_zero, List.getElem?_cons_succ, z0, scN, z3, z1, z2, Bool.not_false, Option.isSome_some, if_true, z4]
  | of x b =>
    simp only [Wr.size, Wr.dp] at hl h3 h4
    obtain ⟨q1, q2, q3, q4, q5, q6, q7⟩ := sq3_T (.str "of") (.str x) b.enc
    refine ⟨(b, ar ++ [x]) :: ts, fd, fun u hu => ?_, by simp only [wt, Wr.size]; omega, by simp only [wt]; omega, ?_, base ?_⟩
    · rcases List.mem_cons.mp hu with rfl | hu
      · refine ⟨fun y hy => h1 y (List.mem_cons_of_mem _ hy), fun y hy => ?_, by show b.dp ≤ 150; omega, by show (ar ++ [x]).length + b.size ≤ 5000; simp only [List.length_append, List.length_cons, List.length_nil]; omega⟩
        rcases List.mem_append.mp hy with hy | hy
        · exact h2 y hy
        · rw [List.mem_singleton.mp hy]; exact h1 x List.mem_cons_self
      · exact hts u hu
    · simp only [proc, Wr.occ]
    · have z1 : opD .Add (.lst (ar.map D.str)) (.lst [.str x]) = some (.lst ((ar ++ [x]).map D.str)) := by
        show (if _ then _ else _) = _
        rw [if_pos (by simp only [List.length_map, List.length_cons, List.length_nil, small, decide_eq_true_eq]; omega), List.map_append]
        rfl
      have z3 : see (S ++ [some (stk ts), some (fd.map D.str)]) (.ref S.length) = some (.lst (stk ts)) := by simp only [see, idx_p]
      have z4 : meD .append (.ref S.length) [.tup [b.enc, .lst ((ar ++ [x]).map D.str)]] (S ++ [some (stk ts), some (fd.map D.str)]) = some (.non, S ++ [some (stk ((b, ar ++ [x]) :: ts)), some (fd.map D.str)]) := by
        have zp : D.pure (.tup [b.enc, .lst ((ar ++ [x]).map D.str)]) = true := by simp only [D.pure, D.pures, b.pure_enc, pures_strs, Bool.and_self]
        have zl : small ((stk ts).length + 1) = true := by rw [stk_len]; exact decide_eq_true (by omega)
        simp only [meD, idx_p, zp, zl, Bool.and_self, if_true, set_p, stk_cons, itm]
      have zs1 : small [D.str x].length = true := rfl
      have zs2 : small [b.enc, D.lst ((ar ++ [x]).map D.str)].length = true := rfl
      simp only [exs, ex, ev, evs, Wr.enc, see_str, see_lst, q1, q2, q5, q6, q7, eq_of, List.getElem?_cons_zero, List.getElem?_cons_succ, scO, z3, zs1, zs2, z1, Option.isSome_some, if_true, z4]
  | to a b =>
    simp only [Wr.size, Wr.dp] at hl h3 h4
    obtain ⟨q1, q2, q3, q4, q5, q6, q7⟩ := sq3_T (.str "to") a.enc b.enc
    refine ⟨(a, ar) :: (b, ar) :: ts, fd, fun u hu => ?_, by simp only [wt, Wr.size]; omega, by simp only [wt]; omega, ?_, base ?_⟩
    · rcases List.mem_cons.mp hu with rfl | hu
      · exact ⟨fun y hy => h1 y (List.mem_append_left _ hy), h2, by show a.dp ≤ 150; omega, by show ar.length + a.size ≤ 5000; omega⟩
      · rcases List.mem_cons.mp hu with rfl | hu
        · exact ⟨fun y hy => h1 y (List.mem_append_right _ hy), h2, by show b.dp ≤ 150; omega, by show ar.length + b.size ≤ 5000; omega⟩
        · exact hts u hu
    · simp only [proc, Wr.occ, add_append]
    · have z3 : see (S ++ [some (stk ts), some (fd.map D.str)]) (.ref S.length) = some (.lst (stk ts)) := by simp only [see, idx_p]
      have z4 : meD .extend (.ref S.length) [.lst [.tup [b.enc, .lst (ar.map D.str)], .tup [a.enc, .lst (ar.map D.str)]]] (S ++ [some (stk ts), some (fd.map D.str)]) = some (.non, S ++ [some (stk ((a, ar) :: (b, ar) :: ts)), some (fd.map D.str)]) := by
        have zp : D.pures [.tup [b.enc, .lst (ar.map D.str)], .tup [a.enc, .lst (ar.map D.str)]] = true := by simp only [D.pure, D.pures, a.pure_enc, b.pure_enc, pures_strs, Bool.and_self]
        have zl : small ((stk ts).length + [D.tup [b.enc, .lst (ar.map D.str)], .tup [a.enc, .lst (ar.map D.str)]].length) = true := by rw [stk_len]; exact decide_eq_true (by simp only [List.length_cons, List.length_nil]; omega)
        simp only [meD, idx_p, zp, zl, Bool.and_self, if_true, set_p, stk_cons, itm, List.append_assoc, List.cons_append, List.nil_append]
      have zs : ∀ x y : D, small [x, y].length = true := fun _ _ => rfl
      simp only [exs, ex, ev, evs, Wr.enc, see_str, see_lst, q1, q2, q5, q6, q7, eq_to, List.getElem?_cons_zero, List.getElem?_cons_succ, scT, z3, zs, Option.isSome_some, if_true, z4]
theorem sc_loop {F : CF} {x0 : D} {S : Sto} : ∀ (k : Nat) (ts : List (Wr × List Str)) (fd : List Str) (y3 y4 : Option D), wt ts < k → (∀ u ∈ ts, TOk u) → fd.length + wt ts ≤ 20000 →
    ∃ y3' y4', whRun (fun ρ S => ev F scC ρ S) (fun ρ S => exs F w scB ρ S) k [some x0, some (.ref S.length), some (.ref (S.length + 1)), y3, y4] (S ++ [some (stk ts), some (fd.map D.str)]) =
      some (.nx [some x0, some (.ref S.length), some (.ref (S.length + 1)), y3', y4'], S ++ [some [], some ((proc ts fd).map D.str)])
  | 0, ts, fd, y3, y4, hk, hts, hl => absurd hk (Nat.not_lt_zero _)
  | k + 1, [], fd, y3, y4, hk, hts, hl => by
    have z := stk_ok (ts := []) (by simp)
    have z3 : see (S ++ [some (stk []), some (fd.map D.str)]) (.ref S.length) = some (.lst (stk [])) := by simp only [see, idx_p]
    have zs : small ([] : List D).length = true := rfl
    refine ⟨y3, y4, ?_⟩
    simp only [whRun, scC, ev, evs, List.getElem?_cons_zero, List.getElem?_cons_succ, zs, if_true, z3, see_lst, z, List.isEmpty_nil, Bool.not_true]
    rfl
  | k + 1, t :: ts, fd, y3, y4, hk, hts, hl => by
    obtain ⟨us, fd', h1, h2, h3, h4, h5⟩ := sc_turn (F := F) (w := w) (x0 := x0) (S := S) (y3 := y3) (y4 := y4) (hts t List.mem_cons_self) (fun u hu => hts u (List.mem_cons_of_mem _ hu)) hl
    obtain ⟨y3', y4', e⟩ := sc_loop (F := F) (x0 := x0) (S := S) k us fd' (some t.1.enc) (some (.lst (t.2.map D.str))) (by omega) h1 h3
    have z := stk_ok (ts := t :: ts) hts
    have z3 : see (S ++ [some (stk (t :: ts)), some (fd.map D.str)]) (.ref S.length) = some (.lst (stk (t :: ts))) := by simp only [see, idx_p]
    have zs : small ([] : List D).length = true := rfl
    refine ⟨y3', y4', ?_⟩
    rw [h4] at e
    rw [whRun]
    have ec : ev F scC [some x0, some (.ref S.length), some (.ref (S.length + 1)), y3, y4] (S ++ [some (stk (t :: ts)), some (fd.map D.str)]) = some (.bl true, S ++ [some (stk (t :: ts)), some (fd.map D.str)]) := by
      simp only [scC, ev, evs, List.getElem?_cons_zero, List.getElem?_cons_succ, zs, if_true, z3, see_lst, z, List.isEmpty_cons, Bool.not_false]
    simp only [ec, h5]
    exact e
theorem scanned_ok {f : Nat} (hT : T[f]? = some ⟨1, 5, scannedB⟩) {W : Wr} (hW : ∀ x ∈ W.names, nmOk x = true) (hd : W.dp ≤ 150) (hs : W.size ≤ 5000) (hw : 10000 ≤ w) (S : Sto) : run T w (n + 1) f [W.enc] S = some (.lst (W.fr.map D.str), S) := by
  obtain ⟨y3, y4, e⟩ := sc_loop (F := run T w n) (w := w) (x0 := W.enc) (S := S) w [(W, [])] [] none none (by simp only [wt]; omega) (fun u hu => by rw [List.mem_singleton.mp hu]; exact ⟨hW, by simp, hd, by simpa using hs⟩) (by simp only [wt, List.length_nil]; omega)
  have e1 : proc [(W, [])] [] = W.fr := rfl
  rw [e1] at e
  have e2 : stk [(W, [])] = [.tup [W.enc, .lst []]] := rfl
  rw [e2] at e
  have zs : ∀ x y : D, small [x, y].length = true := fun _ _ => rfl
  have zs1 : ∀ x : D, small [x].length = true := fun _ => rfl
  have zs0 : small ([] : List D).length = true := rfl
  have zp : D.pures [.tup [W.enc, .lst []]] = true := by simp only [D.pures, D.pure, W.pure_enc, Bool.and_self]
  have zq : D.pures [] = true := rfl
  have zs12 : small [1, 2].length = true := rfl
  have zt : ∀ x y : D, [x, y].length = [1, 2].length := fun _ _ => rfl
  have zl : (S ++ [some [D.tup [W.enc, .lst []]]]).length = S.length + 1 := by simp
  have za : S ++ [some [D.tup [W.enc, .lst []]]] ++ [some []] = S ++ [some [.tup [W.enc, .lst []]], some []] := by simp
  rw [run_rt hT rfl (d := .lst (W.fr.map D.str)) (S1 := S ++ [some [], none])]
  · have hp : D.pure (.lst (W.fr.map D.str)) = true := pures_strs _
    simp [leave, hp]
  · have e' : whRun (fun ρ S => ev (run T w n) scC ρ S) (fun ρ S => exs (run T w n) w scB ρ S) w [some W.enc, some (.ref S.length), some (.ref (S.length + 1)), none, none] (S ++ [some [.tup [W.enc, .lst []]], some []]) = _ := e
    simp only [scannedB, List.map_cons, List.map_nil, Nat.reduceSub, List.replicate_succ, List.replicate_zero, List.cons_append, List.nil_append, exs, ex, ev, evs, List.getElem?_cons_zero, zs, zs1, zs0, zp, zq, mkList, if_true, zl, za, zt, zs12, eq_self, List.zip_cons_cons, List.zip_nil_right, List.foldl_cons, List.foldl_nil, List.set_cons_succ, List.set_cons_zero]
    simp only [e', List.getElem?_cons_zero, List.getElem?_cons_succ, idx_q, set_q]
end Iv

set_option Elab.async false
set_option linter.all false
set_option maxRecDepth 100000
set_option maxHeartbeats 4000000
namespace Iv
open PySem
inductive Cn where
  | bd (i : Nat) | fr (x : Str) | of (b : Cn) | to (a b : Cn)
  deriving DecidableEq
def cnt : Wr → List Str → Cn
  | .nm x, ar => if x ∈ ar then .bd (ar.idxOf x) else .fr x
  | .of x b, ar => .of (cnt b (x :: ar))
  | .to a b, ar => .to (cnt a ar) (cnt b ar)
def Cn.frees : Cn → List Str
  | .bd _ => []
  | .fr x => [x]
  | .of b => b.frees
  | .to a b => a.frees ++ b.frees
def Cn.sub (x : Str) (o : Cn) : Cn → Cn
  | .bd i => .bd i
  | .fr y => if y = x then o else .fr y
  | .of b => .of (Cn.sub x o b)
  | .to a b => .to (Cn.sub x o a) (Cn.sub x o b)
theorem cnt_frees_iff : ∀ (W : Wr) (ar : List Str) (y : Str), y ∈ (cnt W ar).frees ↔ y ∈ W.occ ar
  | .nm x, ar, y => by
    simp only [cnt, Wr.occ]
    split <;> simp [Cn.frees]
  | .of x b, ar, y => by
    rw [cnt, Cn.frees, Wr.occ, cnt_frees_iff b (x :: ar) y, b.occ_filter (x :: ar), b.occ_filter (ar ++ [x])]
    simp only [List.mem_filter, List.mem_cons, List.mem_append, List.not_mem_nil, or_false, decide_eq_true_eq]
    constructor
    · rintro ⟨h1, h2⟩; exact ⟨h1, fun z => h2 z.symm⟩
    · rintro ⟨h1, h2⟩; exact ⟨h1, fun z => h2 z.symm⟩
  | .to a b, ar, y => by
    rw [cnt, Cn.frees, Wr.occ, List.mem_append, List.mem_append, cnt_frees_iff a, cnt_frees_iff b]
theorem sub_none (x : Str) (o : Cn) : ∀ c : Cn, x ∉ c.frees → Cn.sub x o c = c
  | .bd i, _ => rfl
  | .fr y, h => by
    have : y ≠ x := fun z => h (by rw [z]; exact List.mem_cons_self)
    simp only [Cn.sub, this, if_false]
  | .of b, h => by rw [Cn.sub, sub_none x o b h]
  | .to a b, h => by rw [Cn.sub, sub_none x o a fun z => h (List.mem_append_left _ z), sub_none x o b fun z => h (List.mem_append_right _ z)]
theorem mem_fr (W : Wr) (y : Str) : y ∈ W.fr ↔ y ∈ W.occ [] := by
  unfold Wr.fr
  rw [mem_add]
  simp
theorem mem_occ (W : Wr) (ar : List Str) (y : Str) : y ∈ W.occ ar ↔ y ∈ W.fr ∧ y ∉ ar := by
  rw [W.occ_filter, List.mem_filter, mem_fr, decide_eq_true_eq]
/-- counted the same where the free names are told the same -/
theorem cnt_same : ∀ (W : Wr) (ar br : List Str), (∀ y ∈ W.fr, (y ∈ ar ↔ y ∈ br) ∧ (y ∈ ar → ar.idxOf y = br.idxOf y)) → cnt W ar = cnt W br
  | .nm x, ar, br, h => by
    obtain ⟨h1, h2⟩ := h x (by rw [fr_nm]; exact List.mem_cons_self)
    simp only [cnt]
    by_cases q : x ∈ ar
    · rw [if_pos q, if_pos (h1.mp q), h2 q]
    · rw [if_neg q, if_neg fun z => q (h1.mpr z)]
  | .of x b, ar, br, h => by
    rw [cnt, cnt, cnt_same b (x :: ar) (x :: br)]
    intro y hy
    by_cases e : y = x
    · subst e
      simp [List.idxOf_cons]
    · have hy2 : y ∈ (Wr.of x b).fr := by rw [fr_of, List.mem_filter]; exact ⟨hy, decide_eq_true e⟩
      obtain ⟨h1, h2⟩ := h y hy2
      have e2 : (x == y) = false := beq_eq_false_iff_ne.mpr fun z => e z.symm
      simp only [List.mem_cons, e, false_or, List.idxOf_cons, e2]
      exact ⟨h1, fun z => by rw [h2 z]⟩
  | .to a b, ar, br, h => by
    rw [cnt, cnt, cnt_same a ar br fun y hy => h y (by rw [fr_to]; exact List.mem_append_left _ hy), cnt_same b ar br fun y hy => h y ?_]
    rw [fr_to]
    by_cases q : y ∈ a.fr
    · exact List.mem_append_left _ q
    · exact List.mem_append_right _ (List.mem_filter.mpr ⟨hy, decide_eq_true q⟩)
theorem mem_fr_of {x y : Str} {b : Wr} : y ∈ (Wr.of x b).fr ↔ y ∈ b.fr ∧ y ≠ x := by rw [fr_of, List.mem_filter, decide_eq_true_eq]
theorem mem_fr_to {y : Str} {a b : Wr} : y ∈ (Wr.to a b).fr ↔ y ∈ a.fr ∨ y ∈ b.fr := by
  rw [fr_to, List.mem_append, List.mem_filter, decide_eq_true_eq]
  by_cases q : y ∈ a.fr <;> simp [q]
/-- a name told anew -/
def ren (z f : Str) : Wr → Wr
  | .nm y => if y = z then .nm f else .nm y
  | .of y b => if y = z then .of y b else .of y (ren z f b)
  | .to a b => .to (ren z f a) (ren z f b)
theorem ren_size (z f : Str) : ∀ W : Wr, (ren z f W).size = W.size
  | .nm y => by simp only [ren]; split <;> rfl
  | .of y b => by simp only [ren]; split <;> simp only [Wr.size, ren_size z f b]
  | .to a b => by simp only [ren, Wr.size, ren_size z f a, ren_size z f b]
theorem ren_dp (z f : Str) : ∀ W : Wr, (ren z f W).dp = W.dp
  | .nm y => by simp only [ren]; split <;> rfl
  | .of y b => by simp only [ren]; split <;> simp only [Wr.dp, ren_dp z f b]
  | .to a b => by simp only [ren, Wr.dp, ren_dp z f a, ren_dp z f b]
theorem ren_names (z f : Str) : ∀ (W : Wr), ∀ y ∈ (ren z f W).names, y = f ∨ y ∈ W.names
  | .nm y, u, h => by
    simp only [ren] at h
    split at h
    · exact .inl (List.mem_singleton.mp h)
    · exact .inr h
  | .of y b, u, h => by
    simp only [ren] at h
    split at h
    · exact .inr h
    · rcases List.mem_cons.mp h with rfl | h
      · exact .inr List.mem_cons_self
      · exact (ren_names z f b u h).imp id fun q => List.mem_cons_of_mem _ q
  | .to a b, u, h => by
    rcases List.mem_append.mp h with h | h
    · exact (ren_names z f a u h).imp id fun q => List.mem_append_left _ q
    · exact (ren_names z f b u h).imp id fun q => List.mem_append_right _ q
/-- told anew around: pre ++ [z] ++ ar read as pre ++ [f] ++ ar -/
theorem cnt_ren {z f : Str} : ∀ (W : Wr) (pre ar : List Str), f ∉ W.names → z ∉ pre → f ∉ pre → cnt (ren z f W) (pre ++ f :: ar) = cnt W (pre ++ z :: ar)
  | .nm y, pre, ar, hf, hz, hp => by
    have hy : y ≠ f := fun q => hf (by rw [q]; exact List.mem_cons_self)
    by_cases e : y = z
    · subst e
      simp only [ren, if_true, cnt]
      have m1 : f ∈ pre ++ f :: ar := by simp
      have m2 : y ∈ pre ++ y :: ar := by simp
      rw [if_pos m1, if_pos m2, List.idxOf_append, List.idxOf_append, if_neg hp, if_neg hz]
      simp
    · have e2 : (z == y) = false := beq_eq_false_iff_ne.mpr fun q => e q.symm
      have e3 : (f == y) = false := beq_eq_false_iff_ne.mpr fun q => hy q.symm
      simp only [ren, e, if_false, cnt]
      have mm : y ∈ pre ++ f :: ar ↔ y ∈ pre ++ z :: ar := by simp [e, hy]
      by_cases q : y ∈ pre ++ z :: ar
      · rw [if_pos (mm.mpr q), if_pos q]
        by_cases qp : y ∈ pre
        · rw [List.idxOf_append, List.idxOf_append, if_pos qp, if_pos qp]
        · rw [List.idxOf_append, List.idxOf_append, if_neg qp, if_neg qp, List.idxOf_cons, List.idxOf_cons, e2, e3]
      · rw [if_neg (fun w => q (mm.mp w)), if_neg q]
  | .of y b, pre, ar, hf, hz, hp => by
    have hy : y ≠ f := fun q => hf (by rw [q]; exact List.mem_cons_self)
    have hb : f ∉ b.names := fun q => hf (List.mem_cons_of_mem _ q)
    by_cases e : y = z
    · subst e
      simp only [ren, if_true, cnt]
      congr 1
      refine cnt_same b _ _ fun u hu => ?_
      have huf : u ≠ f := fun q => hb (q ▸ fr_names b u hu)
      by_cases e4 : u = y
      · subst e4
        simp [List.idxOf_cons]
      · have e5 : (y == u) = false := beq_eq_false_iff_ne.mpr fun q => e4 q.symm
        have e6 : (f == u) = false := beq_eq_false_iff_ne.mpr fun q => huf q.symm
        refine ⟨by simp [e4, huf], fun _ => ?_⟩
        rw [List.idxOf_cons, List.idxOf_cons, e5]
        simp only [cond_false]
        congr 1
        by_cases qp : u ∈ pre
        · rw [List.idxOf_append, List.idxOf_append, if_pos qp, if_pos qp]
        · rw [List.idxOf_append, List.idxOf_append, if_neg qp, if_neg qp, List.idxOf_cons, List.idxOf_cons, e5, e6]
    · simp only [ren, e, if_false, cnt]
      have ih := cnt_ren (z := z) (f := f) b (y :: pre) ar hb (fun q => (List.mem_cons.mp q).elim (fun w => e w.symm) hz) (fun q => (List.mem_cons.mp q).elim (fun w => hy w.symm) hp)
      simp only [List.cons_append] at ih
      rw [ih]
  | .to a b, pre, ar, hf, hz, hp => by
    simp only [ren, cnt]
    rw [cnt_ren a pre ar (fun q => hf (List.mem_append_left _ q)) hz hp, cnt_ren b pre ar (fun q => hf (List.mem_append_right _ q)) hz hp]
end Iv

set_option Elab.async false
set_option linter.all false
set_option maxRecDepth 100000
set_option maxHeartbeats 4000000
namespace Iv
open PySem
variable {T : List Fn} {w n : Nat}
theorem sz1 (a : D) : small [a].length = true := rfl
theorem sz3 (a b c : D) : small [a, b, c].length = true := rfl
theorem isS_nm (x : Str) : [Ty.str].any (isTy (.str x)) = true := rfl
def namesB (self : Nat) : Ss := (.cons (.ifs (.isi (.v 0) [.str]) (.cons (.ret (.lst (.cons (.v 0) .nil))) .nil) .nil) (.cons (.ret (.lst (.star (.call self (.cons (.ix (.v 0) (.c (.int 1))) .nil)) (.star (.call self (.cons (.ix (.v 0) (.c (.int 2))) .nil)) .nil)))) .nil))
theorem names_len : ∀ W : Wr, W.names.length ≤ W.size
  | .nm _ => Nat.le_refl _
  | .of _ b => by simp only [Wr.names, Wr.size, List.length_cons]; have := names_len b; omega
  | .to a b => by simp only [Wr.names, Wr.size, List.length_append]; have := names_len a; have := names_len b; omega
theorem namesIn_nm {f : Nat} (hT : T[f]? = some ⟨1, 1, namesB f⟩) (x : Str) (S : Sto) (n : Nat) (hn : 1 ≤ n) : run T w n f [.str x] S = some (.lst [.str x], S) := by
  obtain ⟨n, rfl⟩ : ∃ m, n = m + 1 := ⟨n - 1, by omega⟩
  exact run_rts hT rfl rfl rfl
theorem namesIn_sq {f : Nat} (hT : T[f]? = some ⟨1, 1, namesB f⟩) {s a b : D} {l m : List D} {S : Sto} (hl : l.length + m.length ≤ 50000) (ha : run T w n f [a] S = some (.lst l, S)) (hb : run T w n f [b] S = some (.lst m, S)) : run T w (n + 1) f [.tup [s, a, b]] S = some (.lst (l ++ m), S) := by
  refine run_rts hT rfl rfl ?_
  obtain ⟨q1, q2, q3, q4, q5, q6, q7⟩ := sq3_T s a b
  have z : small (l ++ (m ++ [])).length = true := decide_eq_true (by simp only [List.length_append, List.length_nil]; omega)
  rw [List.append_nil] at z
  simp only [namesB, List.map_cons, List.map_nil, Nat.sub_self, List.replicate_zero, List.append_nil, exs, ex, ev, evs, q1, q2, q6, q7, see_lst, List.getElem?_cons_zero, ha, hb, z, if_true]
theorem namesIn_ok {f : Nat} (hT : T[f]? = some ⟨1, 1, namesB f⟩) {S : Sto} : ∀ (W : Wr) (n : Nat), W.dp + 1 ≤ n → W.size ≤ 20000 → run T w n f [W.enc] S = some (.lst (W.names.map D.str), S)
  | .nm x, n, hn, _ => namesIn_nm hT x S n (by omega)
  | .of x b, n, hn, hs => by
    simp only [Wr.dp] at hn
    simp only [Wr.size] at hs
    obtain ⟨n, rfl⟩ : ∃ m, n = m + 1 := ⟨n - 1, by omega⟩
    have hl := names_len b
    exact namesIn_sq hT (s := .str "of") (l := [.str x]) (m := b.names.map D.str) (by simp only [List.length_cons, List.length_nil, List.length_map]; omega) (namesIn_nm hT x S n (by omega)) (namesIn_ok hT b n (by omega) (by omega))
  | .to a b, n, hn, hs => by
    simp only [Wr.dp] at hn
    simp only [Wr.size] at hs
    obtain ⟨n, rfl⟩ : ∃ m, n = m + 1 := ⟨n - 1, by omega⟩
    have hl := names_len a
    have hm := names_len b
    have e := namesIn_sq (S := S) hT (s := .str "to") (l := a.names.map D.str) (m := b.names.map D.str) (by simp only [List.length_map]; omega) (namesIn_ok hT a n (by omega) (by omega)) (namesIn_ok hT b n (by omega) (by omega))
    rw [← List.map_append] at e
    exact e
def freshC : E := (.comp false (.n 3) (.rng (.c (.int 0)) (.op .Add (.bi .len (.cons (.v 1) .nil)) (.c (.int 1)))) (.js (.cons (.fmt (.ix (.v 0) (.c (.int 0)))) (.cons (.fmt (.v 3)) .nil))))
def freshF : E := (.compI false (.n 4) (.v 2) (.cmp .NotIn (.v 4) (.v 1)) (.v 4))
def freshB : Ss := (.cons (.asg (.n 2) freshC) (.cons (.ret (.ix freshF (.c (.int 0)))) .nil))
def num (k : Nat) : Str := (toString (k : Int) : Str)
/-- a figure text -/
def figOk (s : Str) : Bool := decide (1 ≤ s.length) && decide (s.length ≤ 4) && s.cps.toList.all fun c => decide (c ∈ digits.cps.toList)
theorem num_ok : ∀ k ∈ List.range 200, figOk (num k) = true := by decide +kernel
theorem num_nd : ((List.range 200).map num).Nodup := by decide +kernel
theorem sign_append (c : Nat) (s : Str) : ((⟨#[c]⟩ : Str) ++ s).cps.toList = c :: s.cps.toList := by
  show ((#[c] : Array Nat) ++ s.cps).toList = _
  simp
theorem str_ext {a b : Str} (h : a.cps.toList = b.cps.toList) : a = b := by
  obtain ⟨a⟩ := a
  obtain ⟨b⟩ := b
  obtain ⟨a⟩ := a
  obtain ⟨b⟩ := b
  simp only at h
  rw [h]
theorem sign_inj {c : Nat} {s t : Str} (h : (⟨#[c]⟩ : Str) ++ s = (⟨#[c]⟩ : Str) ++ t) : s = t := by
  have e := congrArg (fun u : Str => u.cps.toList) h
  simp only [sign_append] at e
  exact str_ext (List.cons.inj e).2
theorem fig_no : ∀ c ∈ digits.cps.toList, c ≠ 102 ∧ c ≠ 111 := by decide
theorem fresh_nm {c : Nat} {s : Str} (hc : c ∈ letters.cps.toList) (hs : figOk s = true) : nmOk ((⟨#[c]⟩ : Str) ++ s) = true := by
  simp only [figOk, Bool.and_eq_true, decide_eq_true_eq, List.all_eq_true] at hs
  obtain ⟨⟨h1, h2⟩, h3⟩ := hs
  have e := sign_append c s
  have hl : ((⟨#[c]⟩ : Str) ++ s).length = s.length + 1 := by
    show ((⟨#[c]⟩ : Str) ++ s).cps.size = _
    rw [← Array.length_toList, e, List.length_cons, Array.length_toList]
    rfl
  have hne : s.cps.toList ≠ [] := fun z => by
    have : s.length = 0 := by show s.cps.size = 0; rw [← Array.length_toList, z]; rfl
    omega
  obtain ⟨d, r, hd⟩ : ∃ d r, s.cps.toList = d :: r := by
    cases q : s.cps.toList with
    | nil => exact absurd q hne
    | cons a b => exact ⟨a, b, rfl⟩
  have hd2 := fig_no d (h3 d (by rw [hd]; exact List.mem_cons_self))
  have n1 : ((⟨#[c]⟩ : Str) ++ s) ≠ "of" := fun z => by
    have q := congrArg (fun u : Str => u.cps.toList) z
    simp only [e, hd] at q
    have q2 : c :: d :: r = [111, 102] := q
    simp only [List.cons.injEq] at q2
    exact hd2.1 q2.2.1
  have n2 : ((⟨#[c]⟩ : Str) ++ s) ≠ "to" := fun z => by
    have q := congrArg (fun u : Str => u.cps.toList) z
    simp only [e, hd] at q
    have q2 : c :: d :: r = [116, 111] := q
    simp only [List.cons.injEq] at q2
    exact hd2.2 q2.2.1
  have hsub : ∀ c, c ∈ letters.cps.toList ∨ c ∈ digits.cps.toList → c ∈ (letters ++ digits).cps.toList := fun c h => by
    have e2 : (letters ++ digits).cps.toList = letters.cps.toList ++ digits.cps.toList := by decide +kernel
    rw [e2, List.mem_append]
    exact h
  simp only [nmOk, Bool.and_eq_true, decide_eq_true_eq, Bool.not_eq_true', decide_eq_false_iff_not, List.all_eq_true]
  refine ⟨⟨⟨⟨⟨by omega, by omega⟩, n1⟩, n2⟩, by rw [e]; exact hc⟩, fun u hu => ?_⟩
  rw [e] at hu
  rcases List.mem_cons.mp hu with rfl | hu
  · exact hsub _ (.inl hc)
  · exact hsub _ (.inr (h3 u hu))
theorem nodup_len : ∀ (l m : List Str), l.Nodup → (∀ x ∈ l, x ∈ m) → l.length ≤ m.length
  | [], m, _, _ => Nat.zero_le _
  | x :: l, m, hn, h => by
    obtain ⟨h1, h2⟩ := List.nodup_cons.mp hn
    have hx := h x List.mem_cons_self
    have ih := nodup_len l (m.erase x) h2 fun y hy => (List.mem_erase_of_ne (fun (z : y = x) => h1 (z ▸ hy))).mpr (h y (List.mem_cons_of_mem _ hy))
    rw [List.length_erase_of_mem hx] at ih
    have := List.length_pos_of_mem hx
    simp only [List.length_cons]
    omega
theorem filt_strs (p : D → Bool) (l : List Str) : (l.map D.str).filter p = (l.filter fun x => p (.str x)).map D.str := by
  induction l with
  | nil => rfl
  | cons x l ih =>
    rw [List.map_cons, List.filter_cons, List.filter_cons, ih]
    split <;> rfl
/-- the names that are tried -/
def tries (c m : Nat) : List Str := (List.range m).map fun k => (⟨#[c]⟩ : Str) ++ num k
theorem tries_len (c m : Nat) : (tries c m).length = m := by unfold tries; rw [List.length_map, List.length_range]
theorem map_nodup {c : Nat} : ∀ {L : List Str}, L.Nodup → (L.map fun s => (⟨#[c]⟩ : Str) ++ s).Nodup
  | [], _ => List.nodup_nil
  | s :: L, hn => by
    obtain ⟨m1, m2⟩ := List.nodup_cons.mp hn
    rw [List.map_cons]
    refine List.nodup_cons.mpr ⟨fun q => ?_, map_nodup m2⟩
    obtain ⟨t, ht, e⟩ := List.mem_map.mp q
    exact m1 (sign_inj e ▸ ht)
theorem tries_nodup (c : Nat) {m : Nat} (hm : m ≤ 200) : (tries c m).Nodup := by
  have e : tries c m = ((List.range m).map num).map fun s => (⟨#[c]⟩ : Str) ++ s := by
    unfold tries
    rw [List.map_map]
    exact List.map_congr_left fun k _ => rfl
  have hn : ((List.range m).map num).Nodup := by
    have ht : (List.range m).map num = ((List.range 200).map num).take m := by
      rw [← List.map_take, List.take_range, Nat.min_eq_left hm]
    rw [ht]
    exact List.Sublist.nodup (List.take_sublist _ _) num_nd
  rw [e]
  exact map_nodup hn
theorem in200 {k m : Nat} (hk : k ∈ List.range m) (hm : m ≤ 200) : k ∈ List.range 200 := List.mem_range.mpr (Nat.lt_of_lt_of_le (List.mem_range.mp hk) hm)
theorem tries_good {c : Nat} (hc : c ∈ letters.cps.toList) {m : Nat} (hm : m ≤ 200) : ∀ y ∈ tries c m, nmOk y = true := fun y hy => by
  obtain ⟨k, hk, rfl⟩ := List.mem_map.mp hy
  exact fresh_nm hc (num_ok k (in200 hk hm))
theorem small_pow {k : Nat} (hk : k < 200) : decide ((k : Int).natAbs < 2 ^ 1900) = true :=
  decide_eq_true (Nat.lt_of_lt_of_le (show (k : Int).natAbs < 2 ^ 8 by omega) (Nat.pow_le_pow_right (by decide) (by decide)))
theorem try_ev {F : CF} {z : Str} {c k : Nat} {a1 a2 a4 : Option D} {S : Sto} (z5 : ixD (.str z) (.int 0) = some (.str ⟨#[c]⟩)) (hk : k ∈ List.range 200) :
    ev F (.js (.cons (.fmt (.ix (.v 0) (.c (.int 0)))) (.cons (.fmt (.v 3)) .nil))) [some (.str z), a1, a2, some (.int (k : Int)), a4] S = some (.str ((⟨#[c]⟩ : Str) ++ num k), S) := by
  have f1 : small (Str.length (⟨#[c]⟩ : Str)) = true := rfl
  have f2 := small_pow (List.mem_range.mp hk)
  have f3 := num_ok k hk
  simp only [figOk, Bool.and_eq_true, decide_eq_true_eq] at f3
  have f0 : Str.length (⟨#[c]⟩ : Str) = 1 := rfl
  have f4 : small ((List.map (fun x : Str => x.length) [(⟨#[c]⟩ : Str), num k]).sum) = true := decide_eq_true (by
    simp only [List.map_cons, List.map_nil, List.sum_cons, List.sum_nil]
    omega)
  have f5 : catS Str.empty [(⟨#[c]⟩ : Str), num k] = (⟨#[c]⟩ : Str) ++ num k := by
    show (Str.empty ++ (⟨#[c]⟩ : Str)) ++ num k = _
    have : Str.empty ++ (⟨#[c]⟩ : Str) = (⟨#[c]⟩ : Str) := by
      refine str_ext ?_
      show ((#[] : Array Nat) ++ #[c]).toList = _
      simp
    rw [this]
  have f6 : strs? [.str (⟨#[c]⟩ : Str), .str (num k)] = some [(⟨#[c]⟩ : Str), num k] := rfl
  have f7 : (D.str (toString (k : Int))) = D.str (num k) := rfl
  simp only [ev, evs, see_str, List.getElem?_cons_zero, List.getElem?_cons_succ, z5, f1, f2, if_true, f7, f6, f4, f5]
theorem freshC_ev {F : CF} {z : Str} {c : Nat} {tk : List Str} {S : Sto} (z5 : ixD (.str z) (.int 0) = some (.str ⟨#[c]⟩)) (hl : tk.length < 199) :
    ev F freshC [some (.str z), some (.lst (tk.map D.str)), none, none, none] S = some (.lst ((tries c (tk.length + 1)).map D.str), S) := by
  have hr : ev F (.rng (.c (.int 0)) (.op .Add (.bi .len (.cons (.v 1) .nil)) (.c (.int 1)))) [some (.str z), some (.lst (tk.map D.str)), none, none, none] S = some (.lst ((List.range (tk.length + 1)).map fun (k : Nat) => .int (k : Int)), S) := by
    have zl : biD .len [.lst (tk.map D.str)] = some (.int (tk.length : Int)) := by rw [len_lst, List.length_map]
    have zr : ((decide (-(2 ^ 62) ≤ (0 : Int)) && decide ((0 : Int) < 2 ^ 62) && decide (-(2 ^ 62) ≤ (tk.length : Int) + 1)) && decide ((tk.length : Int) + 1 < 2 ^ 62)) = true := by
      simp only [Bool.and_eq_true, decide_eq_true_eq]
      omega
    have zm : ((List.range ((tk.length : Int) + 1 - 0).toNat).map fun (k : Nat) => D.int (0 + (k : Int))) = (List.range (tk.length + 1)).map fun (k : Nat) => D.int (k : Int) := by
      rw [show ((tk.length : Int) + 1 - 0).toNat = tk.length + 1 by omega]
      exact List.map_congr_left fun k _ => by rw [Int.zero_add]
    simp only [ev, evs, List.getElem?_cons_zero, List.getElem?_cons_succ, seeAll, see_lst, zl, see_int, op_add]
    rw [if_pos zr, zm]
  have e := ev_comp (F := F) (t := .n 3) (it := (.rng (.c (.int 0)) (.op .Add (.bi .len (.cons (.v 1) .nil)) (.c (.int 1))))) (elt := (.js (.cons (.fmt (.ix (.v 0) (.c (.int 0)))) (.cons (.fmt (.v 3)) .nil)))) (ρ := [some (.str z), some (.lst (tk.map D.str)), none, none, none]) (g := fun d => match d with
    | .int i => .str ((⟨#[c]⟩ : Str) ++ num i.toNat)
    | d => d) hr rfl (fun d hd => by
      obtain ⟨k, hk, rfl⟩ := List.mem_map.mp hd
      exact ⟨_, rfl, try_ev z5 (in200 hk (by omega))⟩) (by rw [List.length_map, List.length_range]; omega)
  rw [List.map_map] at e
  have e2 : (tries c (tk.length + 1)).map D.str = (List.range (tk.length + 1)).map ((fun d => match d with
    | D.int i => .str ((⟨#[c]⟩ : Str) ++ num i.toNat)
    | d => d) ∘ fun (k : Nat) => D.int (k : Int)) := by
    unfold tries
    rw [List.map_map]
    exact List.map_congr_left fun k _ => rfl
  rw [e2]
  exact e
theorem freshF_ev {F : CF} {z : Str} {all tk : List Str} {S : Sto} (hl : all.length ≤ 1000) : ev F freshF [some (.str z), some (.lst (tk.map D.str)), some (.lst (all.map D.str)), none, none] S = some (.lst ((all.filter fun y => decide (y ∉ tk)).map D.str), S) := by
  have q := ev_filter (F := F) (i := 4) (it := .v 2) (cond := (.cmp .NotIn (.v 4) (.v 1))) (ρ := [some (.str z), some (.lst (tk.map D.str)), some (.lst (all.map D.str)), none, none]) (S := S) (S1 := S) (x := .lst (all.map D.str)) (xs := all.map D.str) (p := fun d => match d with
    | .str y => decide (y ∉ tk)
    | _ => false) rfl rfl (Nat.lt_succ_self 4) (fun d hd => by
      obtain ⟨y, hy, rfl⟩ := List.mem_map.mp hd
      have z : cmpD .NotIn (.str y) (.lst (tk.map D.str)) = some (decide (y ∉ tk)) := by rw [notin_strs, ← decide_not]
      simp only [ev, List.set_cons_succ, List.set_cons_zero, List.getElem?_cons_zero, List.getElem?_cons_succ, see_str, see_lst, z]) (by rw [List.length_map]; omega)
  rw [filt_strs] at q
  exact q
theorem first_sign {z : Str} (hz : nmOk z = true) : ∃ c, c ∈ letters.cps.toList ∧ ixD (.str z) (.int 0) = some (.str ⟨#[c]⟩) := by
  simp only [nmOk, Bool.and_eq_true, decide_eq_true_eq] at hz
  obtain ⟨⟨⟨⟨⟨h1, h2⟩, _⟩, _⟩, h5⟩, _⟩ := hz
  obtain ⟨c, r, hc⟩ : ∃ c0 r, z.cps.toList = c0 :: r := by
    cases q : z.cps.toList with
    | nil =>
      have : z.length = 0 := by show z.cps.size = 0; rw [← Array.length_toList, q]; rfl
      omega
    | cons a b => exact ⟨a, b, rfl⟩
  rw [hc] at h5
  refine ⟨c, h5, ?_⟩
  show (if _ then _ else _) = _
  rw [if_pos (show small z.length = true from decide_eq_true (by omega)), hc, show (0 : Int) = ((0 : Nat) : Int) from rfl, atI_nat (by simp)]
  rfl
end Iv

set_option Elab.async false
set_option linter.all false
set_option maxRecDepth 100000
set_option maxHeartbeats 4000000
namespace Iv
open PySem
variable {T : List Fn} {w n : Nat}
theorem fresh_ok {f : Nat} (hT : T[f]? = some ⟨2, 5, freshB⟩) {z : Str} {tk : List Str} (hz : nmOk z = true) (hl : tk.length < 199) (S : Sto) : ∃ y, nmOk y = true ∧ y ∉ tk ∧ run T w (n + 1) f [.str z, .lst (tk.map D.str)] S = some (.str y, S) := by
  obtain ⟨c, h5, z5⟩ := first_sign hz
  have hne : ((tries c (tk.length + 1)).filter fun y => decide (y ∉ tk)) ≠ [] := fun q => by
    have := nodup_len _ tk (tries_nodup c (m := tk.length + 1) (by omega)) fun y hy => by
      have q2 := List.filter_eq_nil_iff.mp q y hy
      simpa using q2
    rw [tries_len] at this
    omega
  have c1 := freshC_ev (F := run T w n) (S := S) z5 hl
  have c2 := freshF_ev (F := run T w n) (z := z) (all := tries c (tk.length + 1)) (tk := tk) (S := S) (by rw [tries_len]; omega)
  obtain ⟨y, l, hy⟩ := List.exists_cons_of_ne_nil hne
  have hm : y ∈ (tries c (tk.length + 1)).filter fun y => decide (y ∉ tk) := by rw [hy]; exact List.mem_cons_self
  obtain ⟨y1, y2⟩ := List.mem_filter.mp hm
  rw [hy] at c2
  have g1 : nmOk y = true := tries_good h5 (m := tk.length + 1) (by omega) y y1
  have g2 : y ∉ tk := of_decide_eq_true y2
  have c3 : ixD (.lst ((y :: l).map D.str)) (.int 0) = some (.str y) := by
    rw [ix_lst, show (0 : Int) = ((0 : Nat) : Int) from rfl, atI_nat (by simp)]
    rfl
  have s1 : ex (run T w n) w (.asg (.n 2) freshC) [some (.str z), some (.lst (tk.map D.str)), none, none, none] S = some (.nx [some (.str z), some (.lst (tk.map D.str)), some (.lst ((tries c (tk.length + 1)).map D.str)), none, none], S) := by
    rw [ex, c1]
    rfl
  have s2 : ex (run T w n) w (.ret (.ix freshF (.c (.int 0)))) [some (.str z), some (.lst (tk.map D.str)), some (.lst ((tries c (tk.length + 1)).map D.str)), none, none] S = some (.rt (.str y), S) := by
    rw [ex, ev, c2]
    simp only [ev, see_lst, c3]
  refine ⟨y, g1, g2, run_rts hT rfl rfl ?_⟩
  show exs (run T w n) w (.cons (.asg (.n 2) freshC) (.cons (.ret (.ix freshF (.c (.int 0)))) .nil)) [some (.str z), some (.lst (tk.map D.str)), none, none, none] S = _
  rw [exs, s1]
  simp only [exs, s2]
end Iv

set_option Elab.async false
set_option linter.all false
set_option maxRecDepth 100000
set_option maxHeartbeats 4000000
namespace Iv
open PySem
variable {T : List Fn} {w n : Nat}
def pi1 : St := (.ifs (.isi (.v 0) [.str]) (.cons (.ret (.ite (.cmp .Eq (.v 0) (.v 1)) (.v 2) (.v 0))) .nil) .nil)
def pi2 (f : Nat) : St := (.ifs (.cmp .Eq (.ix (.v 0) (.c (.int 0))) (.g "TO" (.str "to"))) (.cons (.ret (.tup (.cons (.g "TO" (.str "to")) (.cons (.call f (.cons (.ix (.v 0) (.c (.int 1))) (.cons (.v 1) (.cons (.v 2) (.cons (.v 3) .nil))))) (.cons (.call f (.cons (.ix (.v 0) (.c (.int 2))) (.cons (.v 1) (.cons (.v 2) (.cons (.v 3) .nil))))) .nil))))) .nil) .nil)
def pi3 : St := (.par [4, 5] (.cons (.ix (.v 0) (.c (.int 1))) (.cons (.ix (.v 0) (.c (.int 2))) .nil)))
def pi4 : St := (.ifs (.cmp .Eq (.v 4) (.v 1)) (.cons (.ret (.v 0)) .nil) .nil)
def pi5a (fr nms : Nat) : St := (.asg (.n 6) (.call fr (.cons (.v 4) (.cons (.lst (.cons (.v 1) (.star (.v 3) (.star (.call nms (.cons (.v 5) .nil)) .nil)))) .nil))))
def pi5b (f : Nat) : St := (.par [4, 5] (.cons (.v 6) (.cons (.call f (.cons (.v 5) (.cons (.v 4) (.cons (.v 6) (.cons (.lst (.cons (.v 6) .nil)) .nil))))) .nil)))
def pi5 (f fin fr nms : Nat) : St := (.ifs (.and (.cmp .In (.v 4) (.v 3)) (.cmp .In (.v 1) (.call fin (.cons (.v 5) .nil)))) (.cons (pi5a fr nms) (.cons (pi5b f) .nil)) .nil)
def pi6 (f : Nat) : St := (.ret (.tup (.cons (.g "OF" (.str "of")) (.cons (.v 4) (.cons (.call f (.cons (.v 5) (.cons (.v 1) (.cons (.v 2) (.cons (.v 3) .nil))))) .nil)))))
def putInB (f fin fr nms : Nat) : Ss := .cons pi1 (.cons (pi2 f) (.cons pi3 (.cons pi4 (.cons (pi5 f fin fr nms) (.cons (pi6 f) .nil)))))
theorem inS (x : Str) (l : List Str) : cmpD .In (.str x) (.lst (l.map D.str)) = some (decide (x ∈ l)) := by
  rw [in_lst rfl (flats_strs l), inFlat_strs]
theorem eqS (a b : Str) : cmpD .Eq (.str a) (.str b) = some (decide (a = b)) := rfl
theorem eqTT : cmpD .Eq (.str "to") (.str "to") = some true := by decide
theorem eqOT : cmpD .Eq (.str "of") (.str "to") = some false := by decide
section
variable {f fin fr nms : Nat} (hT : T[f]? = some ⟨4, 7, putInB f fin fr nms⟩) {S : Sto}
include hT
/-- a name -/
theorem pi_nm {y x : Str} {o sh : D} : run T w (n + 1) f [.str y, .str x, o, sh] S = some (if y = x then o else .str y, S) := by
  refine run_rts hT rfl rfl ?_
  have e := eqS y x
  by_cases h : y = x
  · subst h
    rw [decide_eq_true rfl] at e
    simp only [putInB, pi1, List.map_cons, List.map_nil, Nat.reduceSub, List.replicate_succ, List.replicate_zero, List.cons_append, List.nil_append, exs, ex, ev, see_str, isS_nm, List.getElem?_cons_zero, List.getElem?_cons_succ, e, if_true]
  · rw [decide_eq_false h] at e
    simp only [putInB, pi1, List.map_cons, List.map_nil, Nat.reduceSub, List.replicate_succ, List.replicate_zero, List.cons_append, List.nil_append, exs, ex, ev, see_str, isS_nm, List.getElem?_cons_zero, List.getElem?_cons_succ, e, h, if_false]
/-- handed -/
theorem pi_to {a b a' b' x o sh : D} (ha : run T w n f [a, x, o, sh] S = some (a', S)) (hb : run T w n f [b, x, o, sh] S = some (b', S)) : run T w (n + 1) f [.tup [.str "to", a, b], x, o, sh] S = some (.tup [.str "to", a', b'], S) := by
  refine run_rts hT rfl rfl ?_
  obtain ⟨q1, q2, q3, q4, q5, q6, q7⟩ := sq3_T (.str "to") a b
  have s1 : ex (run T w n) w pi1 [some (.tup [.str "to", a, b]), some x, some o, some sh, none, none, none] S = some (.nx [some (.tup [.str "to", a, b]), some x, some o, some sh, none, none, none], S) := by
    simp only [pi1, exs, ex, ev, q1, q2, List.getElem?_cons_zero]
  have s2 : ex (run T w n) w (pi2 f) [some (.tup [.str "to", a, b]), some x, some o, some sh, none, none, none] S = some (.rt (.tup [.str "to", a', b']), S) := by
    simp only [pi2, exs, ex, ev, evs, see_str, q1, q5, q6, q7, List.getElem?_cons_zero, List.getElem?_cons_succ, eqTT, ha, hb, sz3, if_true]
  show exs (run T w n) w (putInB f fin fr nms) [some (.tup [.str "to", a, b]), some x, some o, some sh, none, none, none] S = _
  simp only [putInB, exs, s1, s2]
/-- of, the name its own -/
theorem pi_own {y : Str} {b o sh : D} : run T w (n + 1) f [.tup [.str "of", .str y, b], .str y, o, sh] S = some (.tup [.str "of", .str y, b], S) := by
  refine run_rts hT rfl rfl ?_
  obtain ⟨q1, q2, q3, q4, q5, q6, q7⟩ := sq3_T (.str "of") (.str y) b
  have e := eqS y y
  rw [decide_eq_true rfl] at e
  have s1 : ex (run T w n) w pi1 [some (.tup [.str "of", .str y, b]), some (.str y), some o, some sh, none, none, none] S = some (.nx [some (.tup [.str "of", .str y, b]), some (.str y), some o, some sh, none, none, none], S) := by
    simp only [pi1, exs, ex, ev, q1, q2, List.getElem?_cons_zero]
  have s2 : ex (run T w n) w (pi2 f) [some (.tup [.str "of", .str y, b]), some (.str y), some o, some sh, none, none, none] S = some (.nx [some (.tup [.str "of", .str y, b]), some (.str y), some o, some sh, none, none, none], S) := by
    simp only [pi2, exs, ex, ev, evs, see_str, q1, q5, List.getElem?_cons_zero, eqOT]
  have s3 : ex (run T w n) w pi3 [some (.tup [.str "of", .str y, b]), some (.str y), some o, some sh, none, none, none] S = some (.nx [some (.tup [.str "of", .str y, b]), some (.str y), some o, some sh, some (.str y), some b, none], S) := by
    simp only [pi3, ex, ev, evs, q1, q6, q7, List.getElem?_cons_zero]
    rfl
  have s4 : ex (run T w n) w pi4 [some (.tup [.str "of", .str y, b]), some (.str y), some o, some sh, some (.str y), some b, none] S = some (.rt (.tup [.str "of", .str y, b]), S) := by
    simp only [pi4, exs, ex, ev, see_str, List.getElem?_cons_zero, List.getElem?_cons_succ, e]
  show exs (run T w n) w (putInB f fin fr nms) [some (.tup [.str "of", .str y, b]), some (.str y), some o, some sh, none, none, none] S = _
  simp only [putInB, exs, s1, s2, s3, s4]
/-- the head of the other two: up to the fifth line -/
theorem pi_head {y x : Str} {b o sh : D} (h : y ≠ x) {out : Option (Out × Sto)} (e5 : exs (run T w n) w (.cons (pi5 f fin fr nms) (.cons (pi6 f) .nil)) [some (.tup [.str "of", .str y, b]), some (.str x), some o, some sh, some (.str y), some b, none] S = out) :
    exs (run T w n) w (putInB f fin fr nms) [some (.tup [.str "of", .str y, b]), some (.str x), some o, some sh, none, none, none] S = out := by
  obtain ⟨q1, q2, q3, q4, q5, q6, q7⟩ := sq3_T (.str "of") (.str y) b
  have e := eqS y x
  rw [decide_eq_false h] at e
  have s1 : ex (run T w n) w pi1 [some (.tup [.str "of", .str y, b]), some (.str x), some o, some sh, none, none, none] S = some (.nx [some (.tup [.str "of", .str y, b]), some (.str x), some o, some sh, none, none, none], S) := by
    simp only [pi1, exs, ex, ev, q1, q2, List.getElem?_cons_zero]
  have s2 : ex (run T w n) w (pi2 f) [some (.tup [.str "of", .str y, b]), some (.str x), some o, some sh, none, none, none] S = some (.nx [some (.tup [.str "of", .str y, b]), some (.str x), some o, some sh, none, none, none], S) := by
    simp only [pi2, exs, ex, ev, evs, see_str, q1, q5, List.getElem?_cons_zero, eqOT]
  have s3 : ex (run T w n) w pi3 [some (.tup [.str "of", .str y, b]), some (.str x), some o, some sh, none, none, none] S = some (.nx [some (.tup [.str "of", .str y, b]), some (.str x), some o, some sh, some (.str y), some b, none], S) := by
    simp only [pi3, ex, ev, evs, q1, q6, q7, List.getElem?_cons_zero]
    rfl
  have s4 : ex (run T w n) w pi4 [some (.tup [.str "of", .str y, b]), some (.str x), some o, some sh, some (.str y), some b, none] S = some (.nx [some (.tup [.str "of", .str y, b]), some (.str x), some o, some sh, some (.str y), some b, none], S) := by
    simp only [pi4, exs, ex, ev, see_str, List.getElem?_cons_zero, List.getElem?_cons_succ, e]
  rw [← e5]
  simp only [putInB, exs, s1, s2, s3, s4]
/-- of, nothing caught -/
theorem pi_of {y x : Str} {b b' o : D} {sh : List Str} (h : y ≠ x) (hs : y ∉ sh ∨ (y ∈ sh ∧ ∃ l : List Str, run T w n fin [b] S = some (.lst (l.map D.str), S) ∧ x ∉ l)) (hb : run T w n f [b, .str x, o, .lst (sh.map D.str)] S = some (b', S)) :
    run T w (n + 1) f [.tup [.str "of", .str y, b], .str x, o, .lst (sh.map D.str)] S = some (.tup [.str "of", .str y, b'], S) := by
  refine run_rts hT rfl rfl (pi_head hT h ?_)
  have e := inS y sh
  have s5 : ex (run T w n) w (pi5 f fin fr nms) [some (.tup [.str "of", .str y, b]), some (.str x), some o, some (.lst (sh.map D.str)), some (.str y), some b, none] S = some (.nx [some (.tup [.str "of", .str y, b]), some (.str x), some o, some (.lst (sh.map D.str)), some (.str y), some b, none], S) := by
    rcases hs with hs | ⟨hs, l, hl, hx⟩
    · rw [decide_eq_false hs] at e
      simp only [pi5, exs, ex, ev, see_str, see_lst, List.getElem?_cons_zero, List.getElem?_cons_succ, e]
    · rw [decide_eq_true hs] at e
      have e2 := inS x l
      rw [decide_eq_false hx] at e2
      simp only [pi5, exs, ex, ev, evs, see_str, see_lst, List.getElem?_cons_zero, List.getElem?_cons_succ, e, hl, e2]
  have s6 : ex (run T w n) w (pi6 f) [some (.tup [.str "of", .str y, b]), some (.str x), some o, some (.lst (sh.map D.str)), some (.str y), some b, none] S = some (.rt (.tup [.str "of", .str y, b']), S) := by
    simp only [pi6, ex, ev, evs, List.getElem?_cons_zero, List.getElem?_cons_succ, hb, sz3, if_true]
  simp only [exs, s5, s6]
/-- of, told anew -/
theorem pi_ren {y x g : Str} {b c b' o : D} {sh l ns : List Str} (h : y ≠ x) (hs : y ∈ sh) (hl : run T w n fin [b] S = some (.lst (l.map D.str), S)) (hx : x ∈ l) (hn : run T w n nms [b] S = some (.lst (ns.map D.str), S)) (hlen : sh.length + ns.length ≤ 50000)
    (hg : run T w n fr [.str y, .lst ((x :: (sh ++ ns)).map D.str)] S = some (.str g, S)) (hc : run T w n f [b, .str y, .str g, .lst [.str g]] S = some (c, S)) (hb : run T w n f [c, .str x, o, .lst (sh.map D.str)] S = some (b', S)) :
    run T w (n + 1) f [.tup [.str "of", .str y, b], .str x, o, .lst (sh.map D.str)] S = some (.tup [.str "of", .str g, b'], S) := by
  refine run_rts hT rfl rfl (pi_head hT h ?_)
  have e := inS y sh
  rw [decide_eq_true hs] at e
  have e2 := inS x l
  rw [decide_eq_true hx] at e2
  have zl : small (D.str x :: (sh.map D.str ++ (ns.map D.str ++ []))).length = true := decide_eq_true (by simp only [List.length_cons, List.length_append, List.length_map, List.length_nil]; omega)
  have hg' : run T w n fr [.str y, .lst (D.str x :: (sh.map D.str ++ (ns.map D.str ++ [])))] S = some (.str g, S) := by
    rw [List.append_nil, ← List.map_append]
    exact hg
  have s5a : ex (run T w n) w (pi5a fr nms) [some (.tup [.str "of", .str y, b]), some (.str x), some o, some (.lst (sh.map D.str)), some (.str y), some b, none] S = some (.nx [some (.tup [.str "of", .str y, b]), some (.str x), some o, some (.lst (sh.map D.str)), some (.str y), some b, some (.str g)], S) := by
    simp only [pi5a, ex, ev, evs, see_lst, List.getElem?_cons_zero, List.getElem?_cons_succ, hn, zl, if_true, hg', setT, List.set_cons_succ, List.set_cons_zero]
  have s5b : ex (run T w n) w (pi5b f) [some (.tup [.str "of", .str y, b]), some (.str x), some o, some (.lst (sh.map D.str)), some (.str y), some b, some (.str g)] S = some (.nx [some (.tup [.str "of", .str y, b]), some (.str x), some o, some (.lst (sh.map D.str)), some (.str g), some c, some (.str g)], S) := by
    simp only [pi5b, ex, ev, evs, List.getElem?_cons_zero, List.getElem?_cons_succ, sz1, if_true, hc]
    rfl
  have s5 : ex (run T w n) w (pi5 f fin fr nms) [some (.tup [.str "of", .str y, b]), some (.str x), some o, some (.lst (sh.map D.str)), some (.str y), some b, none] S = some (.nx [some (.tup [.str "of", .str y, b]), some (.str x), some o, some (.lst (sh.map D.str)), some (.str g), some c, some (.str g)], S) := by
    simp only [pi5, exs, ex, ev, evs, see_str, see_lst, List.getElem?_cons_zero, List.getElem?_cons_succ, e, hl, e2]
    simp only [s5a, s5b]
  have s6 : ex (run T w n) w (pi6 f) [some (.tup [.str "of", .str y, b]), some (.str x), some o, some (.lst (sh.map D.str)), some (.str g), some c, some (.str g)] S = some (.rt (.tup [.str "of", .str g, b']), S) := by
    simp only [pi6, ex, ev, evs, List.getElem?_cons_zero, List.getElem?_cons_succ, hb, sz3, if_true]
  simp only [exs, s5, s6]
/-- told anew all through -/
theorem ren_ok {z g : Str} : ∀ (W : Wr) (n : Nat), W.dp + 1 ≤ n → g ∉ W.names → run T w n f [W.enc, .str z, .str g, .lst [.str g]] S = some ((ren z g W).enc, S)
  | .nm y, n, hn, hg => by
    obtain ⟨n, rfl⟩ : ∃ m, n = m + 1 := ⟨n - 1, by omega⟩
    have e := pi_nm (w := w) (n := n) (S := S) hT (y := y) (x := z) (o := .str g) (sh := .lst [.str g])
    simp only [ren, Wr.enc]
    rw [e]
    by_cases h : y = z <;> simp [h, Wr.enc]
  | .of y b, n, hn, hg => by
    simp only [Wr.dp] at hn
    obtain ⟨n, rfl⟩ : ∃ m, n = m + 1 := ⟨n - 1, by omega⟩
    have hy : y ≠ g := fun q => hg (by rw [q]; exact List.mem_cons_self)
    by_cases h : y = z
    · subst h
      have e := pi_own (w := w) (n := n) (S := S) hT (y := y) (b := b.enc) (o := .str g) (sh := .lst [.str g])
      simp only [ren, if_true, Wr.enc]
      exact e
    · have ih := ren_ok (z := z) (g := g) b n (by omega) fun q => hg (List.mem_cons_of_mem _ q)
      have e := pi_of (w := w) (n := n) (S := S) hT (y := y) (x := z) (b := b.enc) (b' := (ren z g b).enc) (o := .str g) (sh := [g]) h (.inl (by simpa using hy)) ih
      simp only [ren, h, if_false, Wr.enc]
      exact e
  | .to a b, n, hn, hg => by
    simp only [Wr.dp] at hn
    obtain ⟨n, rfl⟩ : ∃ m, n = m + 1 := ⟨n - 1, by omega⟩
    exact pi_to hT (ren_ok (z := z) (g := g) a n (by omega) fun q => hg (List.mem_append_left _ q)) (ren_ok (z := z) (g := g) b n (by omega) fun q => hg (List.mem_append_right _ q))
/-- putting in: what comes, against the count outwards -/
theorem put_in_ok {gt : Nat} (hG : T[gt]? = some ⟨3, 3, gathB gt⟩) (hF : T[fin]? = some ⟨1, 2, freeInB gt⟩) (hN : T[nms]? = some ⟨1, 1, namesB nms⟩) (hR : T[fr]? = some ⟨2, 5, freshB⟩) {x : Str} {O : Wr} (gO : ∀ y ∈ O.names, nmOk y = true) : ∀ (s : Nat) (W : Wr) (n : Nat), W.size ≤ s → W.dp + 4 ≤ n → (∀ y ∈ W.names, nmOk y = true) → O.size + W.size ≤ 190 →
    ∃ W' : Wr, run T w n f [W.enc, .str x, O.enc, .lst (O.fr.map D.str)] S = some (W'.enc, S) ∧ (∀ y ∈ W'.names, nmOk y = true) ∧ W'.dp ≤ W.dp + O.dp ∧ W'.size ≤ W.size * O.size ∧ (x ∉ W.fr → W' = W) ∧
      ∀ ar : List Str, x ∉ ar → (∀ y ∈ O.fr, y ∉ ar) → cnt W' ar = Cn.sub x (cnt O []) (cnt W ar) := by
  have hOp := O.size_pos
  have cO : ∀ ar : List Str, (∀ y ∈ O.fr, y ∉ ar) → cnt O ar = cnt O [] := fun ar h => cnt_same O ar [] fun y hy => ⟨⟨fun z => absurd z (h y hy), fun z => by simp at z⟩, fun z => absurd z (h y hy)⟩
  intro s
  induction s with
  | zero => intro W n hs; have := W.size_pos; omega
  | succ s ih =>
    intro W n hs hn gW hz
    match W, hs, hn, gW, hz with
    | .nm y, hs, hn, gW, hz =>
      obtain ⟨n, rfl⟩ : ∃ m, n = m + 1 := ⟨n - 1, by omega⟩
      have e := pi_nm (w := w) (n := n) (S := S) hT (y := y) (x := x) (o := O.enc) (sh := .lst (O.fr.map D.str))
      by_cases h : y = x
      · subst h
        rw [if_pos rfl] at e
        refine ⟨O, e, gO, by omega, by simp only [Wr.size]; omega, fun q => absurd (by rw [fr_nm]; exact List.mem_cons_self) q, fun ar h1 h2 => ?_⟩
        simp only [cnt, h1, if_false, Cn.sub, if_true]
        exact cO ar h2
      · rw [if_neg h] at e
        refine ⟨.nm y, e, gW, by omega, by simp only [Wr.size]; omega, fun _ => rfl, fun ar h1 h2 => ?_⟩
        simp only [cnt]
        split
        · rfl
        · simp only [Cn.sub, h, if_false]
    | .to a b, hs, hn, gW, hz =>
      simp only [Wr.size, Wr.dp] at hs hn hz
      obtain ⟨n, rfl⟩ : ∃ m, n = m + 1 := ⟨n - 1, by omega⟩
      obtain ⟨A, a1, a2, a3, a4, a5, a6⟩ := ih a n (by omega) (by omega) (fun y hy => gW y (List.mem_append_left _ hy)) (by omega)
      obtain ⟨B, b1, b2, b3, b4, b5, b6⟩ := ih b n (by omega) (by omega) (fun y hy => gW y (List.mem_append_right _ hy)) (by omega)
      refine ⟨.to A B, pi_to hT a1 b1, fun y hy => (List.mem_append.mp hy).elim (a2 y) (b2 y), by simp only [Wr.dp]; omega, by simp only [Wr.size, Nat.add_mul, Nat.one_mul]; omega, fun q => ?_, fun ar h1 h2 => ?_⟩
      · rw [a5 fun z => q (mem_fr_to.mpr (.inl z)), b5 fun z => q (mem_fr_to.mpr (.inr z))]
      · simp only [cnt, Cn.sub, a6 ar h1 h2, b6 ar h1 h2]
    | .of y b, hs, hn, gW, hz =>
      simp only [Wr.size, Wr.dp] at hs hn hz
      obtain ⟨n, rfl⟩ : ∃ m, n = m + 1 := ⟨n - 1, by omega⟩
      have gy := gW y List.mem_cons_self
      have gb : ∀ u ∈ b.names, nmOk u = true := fun u hu => gW u (List.mem_cons_of_mem _ hu)
      by_cases h : y = x
      · subst h
        refine ⟨.of y b, pi_own hT, gW, by omega, ?_, fun _ => rfl, fun ar h1 h2 => ?_⟩
        · exact Nat.le_mul_of_pos_right _ hOp
        · refine (sub_none y _ _ fun q => ?_).symm
          have := (cnt_frees_iff (.of y b) ar y).mp q
          rw [mem_occ] at this
          exact (mem_fr_of.mp this.1).2 rfl
      · have hF1 : run T w n fin [b.enc] S = some (.lst (b.fr.map D.str), S) := by
          obtain ⟨k, rfl⟩ : ∃ m, n = m + 1 := ⟨n - 1, by omega⟩
          exact freeIn_ok hG hF b S (by omega) (by omega)
        by_cases hc : y ∈ O.fr ∧ x ∈ b.fr
        · obtain ⟨k, rfl⟩ : ∃ m, n = m + 1 := ⟨n - 1, by omega⟩
          have hN1 := namesIn_ok (w := w) hN (S := S) b (k + 1) (by omega) (by omega)
          have l1 := fr_len O
          have l2 := names_len b
          obtain ⟨g, g1, g2, g3⟩ := fresh_ok (w := w) (n := k) hR (z := y) (tk := x :: (O.fr ++ b.names)) gy (by simp only [List.length_cons, List.length_append]; omega) S
          have gx : g ≠ x := fun q => g2 (by rw [q]; exact List.mem_cons_self)
          have gO2 : g ∉ O.fr := fun q => g2 (List.mem_cons_of_mem _ (List.mem_append_left _ q))
          have gb2 : g ∉ b.names := fun q => g2 (List.mem_cons_of_mem _ (List.mem_append_right _ q))
          have r1 := ren_ok (w := w) (S := S) hT (z := y) (g := g) b (k + 1) (by omega) gb2
          have rs := ren_size y g b
          have rd := ren_dp y g b
          obtain ⟨B, b1, b2, b3, b4, b5, b6⟩ := ih (ren y g b) (k + 1) (by omega) (by omega) (fun u hu => (ren_names y g b u hu).elim (fun q => by rw [q]; exact g1) (gb u)) (by omega)
          refine ⟨.of g B, pi_ren hT h hc.1 hF1 hc.2 hN1 (by omega) g3 r1 b1, fun u hu => ?_, by simp only [Wr.dp]; omega, ?_, fun q => absurd (mem_fr_of.mpr ⟨hc.2, fun z => h z.symm⟩) q, fun ar h1 h2 => ?_⟩
          · rcases List.mem_cons.mp hu with rfl | hu
            · exact g1
            · exact b2 u hu
          · rw [rs] at b4
            simp only [Wr.size, Nat.add_mul, Nat.one_mul]
            omega
          · have e1 := b6 (g :: ar) (fun q => (List.mem_cons.mp q).elim (fun z => gx z.symm) h1) (fun u hu q => (List.mem_cons.mp q).elim (fun z => gO2 (z ▸ hu)) (h2 u hu))
            have e2 := cnt_ren (z := y) (f := g) b [] ar gb2 (by simp) (by simp)
            simp only [List.nil_append] at e2
            simp only [cnt, Cn.sub, e1, e2]
        · obtain ⟨B, b1, b2, b3, b4, b5, b6⟩ := ih b n (by omega) (by omega) gb (by omega)
          have hside : y ∉ O.fr ∨ (y ∈ O.fr ∧ ∃ l : List Str, run T w n fin [b.enc] S = some (.lst (l.map D.str), S) ∧ x ∉ l) := by
            by_cases q : y ∈ O.fr
            · exact .inr ⟨q, b.fr, hF1, fun z => hc ⟨q, z⟩⟩
            · exact .inl q
          refine ⟨.of y B, pi_of hT h hside b1, fun u hu => ?_, by simp only [Wr.dp]; omega, by simp only [Wr.size, Nat.add_mul, Nat.one_mul]; omega, fun q => ?_, fun ar h1 h2 => ?_⟩
          · rcases List.mem_cons.mp hu with rfl | hu
            · exact gy
            · exact b2 u hu
          · rw [b5 fun z => q (mem_fr_of.mpr ⟨z, fun e => h e.symm⟩)]
          · by_cases q : y ∈ O.fr
            · have hx : x ∉ b.fr := fun z => hc ⟨q, z⟩
              rw [b5 hx]
              refine (sub_none x _ _ fun z => ?_).symm
              have := (cnt_frees_iff (.of y b) ar x).mp z
              rw [mem_occ] at this
              exact hx (mem_fr_of.mp this.1).1
            · have e1 := b6 (y :: ar) (fun z => (List.mem_cons.mp z).elim (fun e => h e.symm) h1) (fun u hu z => (List.mem_cons.mp z).elim (fun e => q (e ▸ hu)) (h2 u hu))
              simp only [cnt, Cn.sub, e1]
end
end Iv

set_option Elab.async false
set_option linter.all false
set_option maxRecDepth 100000
set_option maxHeartbeats 4000000
namespace Iv
open PySem
def Cn.enc : Cn → D
  | .bd i => .tup [.str "bound", .int i]
  | .fr x => .tup [.str "free", .str x]
  | .of b => .tup [.str "of", b.enc]
  | .to a b => .tup [.str "to", a.enc, b.enc]
theorem eqv_tup (a b : List D) : D.eqv (.tup a) (.tup b) = PyData.eqvAll (D.pys a) (D.pys b) := by simp only [D.eqv, D.py, PyData.eqv]
theorem str_ne : ((("bound" : Str) == "free") = false ∧ (("bound" : Str) == "of") = false ∧ (("bound" : Str) == "to") = false ∧ (("free" : Str) == "bound") = false ∧ (("free" : Str) == "of") = false ∧ (("free" : Str) == "to") = false) ∧
    (("of" : Str) == "bound") = false ∧ (("of" : Str) == "free") = false ∧ (("of" : Str) == "to") = false ∧ (("to" : Str) == "bound") = false ∧ (("to" : Str) == "free") = false ∧ (("to" : Str) == "of") = false := by decide +kernel
theorem eqv_ss (a b : Str) : PyData.eqv (.str a) (.str b) = (a == b) := by rw [PyData.eqv]
theorem eqv_ii (a b : Int) : PyData.eqv (.int a) (.int b) = (a == b) := by rw [PyData.eqv]
theorem cn_eqv (a : Cn) : ∀ b : Cn, D.eqv a.enc b.enc = decide (a = b) := by
  induction a with
  | bd i =>
    intro b
    cases b with
    | bd j =>
      simp only [Cn.enc, eqv_tup, D.pys, D.py, PyData.eqvAll, eqv_ss, eqv_ii, beq_self_eq_true, Bool.true_and, Bool.and_true, Cn.bd.injEq]
      rw [Bool.eq_iff_iff, beq_iff_eq, decide_eq_true_eq]
      exact Int.ofNat_inj
    | _ => simp only [Cn.enc, eqv_tup, D.pys, D.py, PyData.eqvAll, eqv_ss, str_ne.1, str_ne.2, Bool.false_and, reduceCtorEq, decide_false]
  | fr x =>
    intro b
    cases b with
    | fr y =>
      simp only [Cn.enc, eqv_tup, D.pys, D.py, PyData.eqvAll, eqv_ss, eqv_ii, beq_self_eq_true, Bool.true_and, Bool.and_true, Cn.fr.injEq]
      rw [Bool.eq_iff_iff, beq_iff_eq, decide_eq_true_eq]
    | _ => simp only [Cn.enc, eqv_tup, D.pys, D.py, PyData.eqvAll, eqv_ss, str_ne.1, str_ne.2, Bool.false_and, reduceCtorEq, decide_false]
  | of c ih =>
    intro b
    cases b with
    | of d =>
      have ih := ih d
      unfold D.eqv at ih
      simp only [Cn.enc, eqv_tup, D.pys, D.py, PyData.eqvAll, eqv_ss, eqv_ii, beq_self_eq_true, Bool.true_and, Bool.and_true, ih, Cn.of.injEq]
    | _ => simp only [Cn.enc, eqv_tup, D.pys, D.py, PyData.eqvAll, eqv_ss, str_ne.1, str_ne.2, Bool.false_and, reduceCtorEq, decide_false]
  | to c d ih1 ih2 =>
    intro b
    cases b with
    | to e f =>
      have ih1 := ih1 e
      have ih2 := ih2 f
      unfold D.eqv at ih1 ih2
      simp only [Cn.enc, eqv_tup, D.pys, D.py, PyData.eqvAll, eqv_ss, eqv_ii, beq_self_eq_true, Bool.true_and, Bool.and_true, ih1, ih2, Cn.to.injEq, Bool.decide_and]
    | _ => simp only [Cn.enc, eqv_tup, D.pys, D.py, PyData.eqvAll, eqv_ss, str_ne.1, str_ne.2, Bool.false_and, reduceCtorEq, decide_false]
def Cn.dp : Cn → Nat
  | .bd _ => 0
  | .fr _ => 0
  | .of b => b.dp + 1
  | .to a b => max a.dp b.dp + 1
theorem cn_pure : ∀ a : Cn, a.enc.pure = true
  | .bd _ => rfl
  | .fr _ => rfl
  | .of b => by simp [Cn.enc, D.pure, D.pures, cn_pure b]
  | .to a b => by simp [Cn.enc, D.pure, D.pures, cn_pure a, cn_pure b]
theorem cn_lay : ∀ a : Cn, (∀ x ∈ a.frees, nmOk x = true) → a.enc.py.canLay0 = true ∧ a.enc.py.depth ≤ a.dp + 1
  | .bd i, _ => ⟨by have ho : PyData.strOk "bound" = true := by decide +kernel
                    simp only [Cn.enc, D.py, D.pys, PyData.canLay0, PyData.canLayAll0, ho, Bool.and_self], Nat.le_refl _⟩
  | .fr x, h => ⟨by have ho : PyData.strOk "free" = true := by decide +kernel
                    simp only [Cn.enc, D.py, D.pys, PyData.canLay0, PyData.canLayAll0, ho, nm_lay (h x List.mem_cons_self), Bool.and_self], Nat.le_refl _⟩
  | .of b, h => by
    obtain ⟨i1, i2⟩ := cn_lay b h
    have ho : PyData.strOk "of" = true := by decide +kernel
    refine ⟨by simp only [Cn.enc, D.py, D.pys, PyData.canLay0, PyData.canLayAll0, ho, i1, Bool.and_self], ?_⟩
    simp only [Cn.enc, D.py, D.pys, PyData.depth, PyData.depthAll, Cn.dp]
    omega
  | .to a b, h => by
    obtain ⟨i1, i2⟩ := cn_lay a fun y hy => h y (List.mem_append_left _ hy)
    obtain ⟨j1, j2⟩ := cn_lay b fun y hy => h y (List.mem_append_right _ hy)
    have ho : PyData.strOk "to" = true := by decide +kernel
    refine ⟨by simp only [Cn.enc, D.py, D.pys, PyData.canLay0, PyData.canLayAll0, ho, i1, j1, Bool.and_self], ?_⟩
    simp only [Cn.enc, D.py, D.pys, PyData.depth, PyData.depthAll, Cn.dp]
    omega
theorem cnt_dp : ∀ (W : Wr) (ar : List Str), (cnt W ar).dp ≤ W.dp
  | .nm x, ar => by simp only [cnt]; split <;> exact Nat.le_refl _
  | .of x b, ar => by simp only [cnt, Cn.dp, Wr.dp]; have := cnt_dp b (x :: ar); omega
  | .to a b, ar => by simp only [cnt, Cn.dp, Wr.dp]; have := cnt_dp a ar; have := cnt_dp b ar; omega
theorem cnt_frees : ∀ (W : Wr) (ar : List Str), ∀ x ∈ (cnt W ar).frees, x ∈ W.names ∧ x ∉ ar := fun W ar x h => by
  have q := (cnt_frees_iff W ar x).mp h
  rw [mem_occ] at q
  exact ⟨fr_names W x q.1, q.2⟩
end Iv

set_option Elab.async false
set_option linter.all false
set_option maxRecDepth 100000
set_option maxHeartbeats 4000000
namespace Lk06
open PySem PySem.Spec PyProof.Rows L2 Iv
def top (i : Nat) : Stmt := PySem.Challenge.pw_timesagain_k06_put_in_without_catching.main.body.getD i (.Pass ⟨0, 0, 0, 0⟩)
def b_is_name : Ss := (.cons (.ifs (.or (.not (.isi (.v 0) [.str])) (.or (.not (.chain .LtE .LtE (.c (.int 1)) (.bi .len (.cons (.v 0) .nil)) (.g "MOST_NAME" (.int 12)))) (.or (.cmp .In (.v 0) (.g "WORDS" (.tup [(.str "of"), (.str "to")]))) (.cmp .NotIn (.ix (.v 0) (.c (.int 0))) (.g "LETTERS" (.str "abcdefghijklmnopqrstuvwxyz")))))) (.cons (.ret (.c (.bl false))) .nil) .nil) (.cons (.ret (.bi .all (.cons (.comp false (.n 1) (.v 0) (.cmp .In (.v 1) (.op .Add (.g "LETTERS" (.str "abcdefghijklmnopqrstuvwxyz")) (.g "DIGITS" (.str "0123456789"))))) .nil))) .nil))
def d_is_name : DefI := ⟨"is_name", ["value"], ["value", "sign"], ⟨1, 2, b_is_name⟩, defArgs (top 10), defBody (top 10), defScope (top 10)⟩
def b_need_name : Ss := (.cons (.ifs (.not (.call 0 (.cons (.v 0) .nil))) (.cons .never .nil) .nil) .nil)
def d_need_name : DefI := ⟨"need_name", ["value"], ["value"], ⟨1, 1, b_need_name⟩, defArgs (top 11), defBody (top 11), defScope (top 11)⟩
def b_as_tuples : Ss := (.cons (.ret (.ite (.isi (.v 0) [.list, .tuple]) (.bi .tuple (.cons (.comp false (.n 1) (.v 0) (.call 2 (.cons (.v 1) .nil))) .nil)) (.v 0))) .nil)
def d_as_tuples : DefI := ⟨"as_tuples", ["value"], ["value", "part"], ⟨1, 2, b_as_tuples⟩, defArgs (top 12), defBody (top 12), defScope (top 12)⟩
def b_is_writing : Ss := (.cons (.ifs (.isi (.v 0) [.str]) (.cons (.ret (.call 0 (.cons (.v 0) .nil))) .nil) .nil) (.cons (.ifs (.or (.not (.isi (.v 0) [.list, .tuple])) (.or (.cmp .NotEq (.bi .len (.cons (.v 0) .nil)) (.c (.int 3))) (.cmp .NotIn (.ix (.v 0) (.c (.int 0))) (.tup (.cons (.g "OF" (.str "of")) (.cons (.g "TO" (.str "to")) .nil)))))) (.cons (.ret (.c (.bl false))) .nil) .nil) (.cons (.ifs (.cmp .Eq (.ix (.v 0) (.c (.int 0))) (.g "OF" (.str "of"))) (.cons (.ret (.and (.call 0 (.cons (.ix (.v 0) (.c (.int 1))) .nil)) (.call 3 (.cons (.ix (.v 0) (.c (.int 2))) .nil)))) .nil) .nil) (.cons (.ret (.and (.call 3 (.cons (.ix (.v 0) (.c (.int 1))) .nil)) (.call 3 (.cons (.ix (.v 0) (.c (.int 2))) .nil)))) .nil))))
def d_is_writing : DefI := ⟨"is_writing", ["value"], ["value"], ⟨1, 1, b_is_writing⟩, defArgs (top 16), defBody (top 16), defScope (top 16)⟩
def b_need_writing : Ss := (.cons (.ifs (.not (.call 3 (.cons (.v 0) .nil))) (.cons .never .nil) .nil) (.cons (.ret (.call 2 (.cons (.v 0) .nil))) .nil))
def d_need_writing : DefI := ⟨"need_writing", ["value", "part"], ["value", "part"], ⟨2, 2, b_need_writing⟩, defArgs (top 17), defBody (top 17), defScope (top 17)⟩
def b_signs_in : Ss := (.cons (.ifs (.isi (.v 0) [.str]) (.cons (.ret (.c (.int 1))) .nil) .nil) (.cons (.ret (.op .Add (.op .Add (.c (.int 1)) (.call 5 (.cons (.ix (.v 0) (.c (.int 2))) .nil))) (.ite (.cmp .Eq (.ix (.v 0) (.c (.int 0))) (.g "TO" (.str "to"))) (.call 5 (.cons (.ix (.v 0) (.c (.int 1))) .nil)) (.c (.int 0))))) .nil))
def d_signs_in : DefI := ⟨"signs_in", ["writing"], ["writing"], ⟨1, 1, b_signs_in⟩, defArgs (top 18), defBody (top 18), defScope (top 18)⟩
def b_gather_free : Ss := (.cons (.ifs (.isi (.v 0) [.str]) (.cons (.ifs (.and (.cmp .NotIn (.v 0) (.v 1)) (.cmp .NotIn (.v 0) (.v 2))) (.cons (.ex (.meth .append (.v 2) (.cons (.v 0) .nil))) .nil) .nil) .nil) (.cons (.ifs (.cmp .Eq (.ix (.v 0) (.c (.int 0))) (.g "OF" (.str "of"))) (.cons (.ex (.call 6 (.cons (.ix (.v 0) (.c (.int 2))) (.cons (.lst (.star (.v 1) (.cons (.ix (.v 0) (.c (.int 1))) .nil))) (.cons (.v 2) .nil))))) .nil) (.cons (.ex (.call 6 (.cons (.ix (.v 0) (.c (.int 1))) (.cons (.v 1) (.cons (.v 2) .nil))))) (.cons (.ex (.call 6 (.cons (.ix (.v 0) (.c (.int 2))) (.cons (.v 1) (.cons (.v 2) .nil))))) .nil))) .nil)) .nil)
def d_gather_free : DefI := ⟨"gather_free", ["writing", "bound", "found"], ["writing", "bound", "found"], ⟨3, 3, b_gather_free⟩, defArgs (top 19), defBody (top 19), defScope (top 19)⟩
def b_free_in : Ss := (.cons (.asg (.n 1) (.new .nil)) (.cons (.ex (.call 6 (.cons (.v 0) (.cons (.lst .nil) (.cons (.v 1) .nil))))) (.cons (.ret (.frz 1)) .nil)))
def d_free_in : DefI := ⟨"free_in", ["writing"], ["writing", "found"], ⟨1, 2, b_free_in⟩, defArgs (top 20), defBody (top 20), defScope (top 20)⟩
def b_names_in : Ss := (.cons (.ifs (.isi (.v 0) [.str]) (.cons (.ret (.lst (.cons (.v 0) .nil))) .nil) .nil) (.cons (.ret (.lst (.star (.call 8 (.cons (.ix (.v 0) (.c (.int 1))) .nil)) (.star (.call 8 (.cons (.ix (.v 0) (.c (.int 2))) .nil)) .nil)))) .nil))
def d_names_in : DefI := ⟨"names_in", ["writing"], ["writing"], ⟨1, 1, b_names_in⟩, defArgs (top 21), defBody (top 21), defScope (top 21)⟩
def b_fresh_name : Ss := (.cons (.asg (.n 2) (.comp false (.n 3) (.rng (.c (.int 0)) (.op .Add (.bi .len (.cons (.v 1) .nil)) (.c (.int 1)))) (.js (.cons (.fmt (.ix (.v 0) (.c (.int 0)))) (.cons (.fmt (.v 3)) .nil))))) (.cons (.ret (.ix (.compI false (.n 4) (.v 2) (.cmp .NotIn (.v 4) (.v 1)) (.v 4)) (.c (.int 0)))) .nil))
def d_fresh_name : DefI := ⟨"fresh_name", ["name", "taken"], ["name", "taken", "fresh", "number", "each"], ⟨2, 5, b_fresh_name⟩, defArgs (top 22), defBody (top 22), defScope (top 22)⟩
def b_put_in : Ss := (.cons (.ifs (.isi (.v 0) [.str]) (.cons (.ret (.ite (.cmp .Eq (.v 0) (.v 1)) (.v 2) (.v 0))) .nil) .nil) (.cons (.ifs (.cmp .Eq (.ix (.v 0) (.c (.int 0))) (.g "TO" (.str "to"))) (.cons (.ret (.tup (.cons (.g "TO" (.str "to")) (.cons (.call 10 (.cons (.ix (.v 0) (.c (.int 1))) (.cons (.v 1) (.cons (.v 2) (.cons (.v 3) .nil))))) (.cons (.call 10 (.cons (.ix (.v 0) (.c (.int 2))) (.cons (.v 1) (.cons (.v 2) (.cons (.v 3) .nil))))) .nil))))) .nil) .nil) (.cons (.par [4, 5] (.cons (.ix (.v 0) (.c (.int 1))) (.cons (.ix (.v 0) (.c (.int 2))) .nil))) (.cons (.ifs (.cmp .Eq (.v 4) (.v 1)) (.cons (.ret (.v 0)) .nil) .nil) (.cons (.ifs (.and (.cmp .In (.v 4) (.v 3)) (.cmp .In (.v 1) (.call 7 (.cons (.v 5) .nil)))) (.cons (.asg (.n 6) (.call 9 (.cons (.v 4) (.cons (.lst (.cons (.v 1) (.star (.v 3) (.star (.call 8 (.cons (.v 5) .nil)) .nil)))) .nil)))) (.cons (.par [4, 5] (.cons (.v 6) (.cons (.call 10 (.cons (.v 5) (.cons (.v 4) (.cons (.v 6) (.cons (.lst (.cons (.v 6) .nil)) .nil))))) .nil))) .nil)) .nil) (.cons (.ret (.tup (.cons (.g "OF" (.str "of")) (.cons (.v 4) (.cons (.call 10 (.cons (.v 5) (.cons (.v 1) (.cons (.v 2) (.cons (.v 3) .nil))))) .nil))))) .nil))))))
def d_put_in : DefI := ⟨"put_in", ["writing", "name", "other", "shut"], ["writing", "name", "other", "shut", "own", "body", "fresh"], ⟨4, 7, b_put_in⟩, defArgs (top 23), defBody (top 23), defScope (top 23)⟩
def b_put_for : Ss := (.cons (.ret (.call 10 (.cons (.v 0) (.cons (.v 1) (.cons (.v 2) (.cons (.call 7 (.cons (.v 2) .nil)) .nil)))))) .nil)
def d_put_for : DefI := ⟨"put_for", ["writing", "name", "other"], ["writing", "name", "other"], ⟨3, 3, b_put_for⟩, defArgs (top 24), defBody (top 24), defScope (top 24)⟩
def b_told_by : Ss := (.cons (.ret (.ite (.cmp .In (.v 0) (.v 1)) (.meth .index (.v 1) (.cons (.v 0) .nil)) (.v 0))) .nil)
def d_told_by : DefI := ⟨"told_by", ["name", "names"], ["name", "names"], ⟨2, 2, b_told_by⟩, defArgs (top 25), defBody (top 25), defScope (top 25)⟩
def b_are_alike : Ss := (.cons (.ifs (.or (.isi (.v 0) [.str]) (.isi (.v 1) [.str])) (.cons (.ret (.and (.isi (.v 0) [.str]) (.and (.isi (.v 1) [.str]) (.cmp .Eq (.call 12 (.cons (.v 0) (.cons (.v 2) .nil))) (.call 12 (.cons (.v 1) (.cons (.v 3) .nil))))))) .nil) .nil) (.cons (.ifs (.cmp .NotEq (.ix (.v 0) (.c (.int 0))) (.ix (.v 1) (.c (.int 0)))) (.cons (.ret (.c (.bl false))) .nil) .nil) (.cons (.ifs (.cmp .Eq (.ix (.v 0) (.c (.int 0))) (.g "OF" (.str "of"))) (.cons (.ret (.call 13 (.cons (.ix (.v 0) (.c (.int 2))) (.cons (.ix (.v 1) (.c (.int 2))) (.cons (.lst (.cons (.ix (.v 0) (.c (.int 1))) (.star (.v 2) .nil))) (.cons (.lst (.cons (.ix (.v 1) (.c (.int 1))) (.star (.v 3) .nil))) .nil)))))) .nil) .nil) (.cons (.ret (.and (.call 13 (.cons (.ix (.v 0) (.c (.int 1))) (.cons (.ix (.v 1) (.c (.int 1))) (.cons (.v 2) (.cons (.v 3) .nil))))) (.call 13 (.cons (.ix (.v 0) (.c (.int 2))) (.cons (.ix (.v 1) (.c (.int 2))) (.cons (.v 2) (.cons (.v 3) .nil))))))) .nil))))
def d_are_alike : DefI := ⟨"are_alike", ["one", "other", "mine", "its"], ["one", "other", "mine", "its"], ⟨4, 4, b_are_alike⟩, defArgs (top 26), defBody (top 26), defScope (top 26)⟩
def b_signs_of : Ss := (.cons (.ret (.call 5 (.cons (.call 4 (.cons (.v 0) (.cons (.c (.str "writing")) .nil))) .nil))) .nil)
def d_signs_of : DefI := ⟨"signs_of", ["writing"], ["writing"], ⟨1, 1, b_signs_of⟩, defArgs (top 27), defBody (top 27), defScope (top 27)⟩
def b_free_names : Ss := (.cons (.ret (.bi .tuple (.cons (.call 7 (.cons (.call 4 (.cons (.v 0) (.cons (.c (.str "writing")) .nil))) .nil)) .nil))) .nil)
def d_free_names : DefI := ⟨"free_names", ["writing"], ["writing"], ⟨1, 1, b_free_names⟩, defArgs (top 28), defBody (top 28), defScope (top 28)⟩
def b_alike : Ss := (.cons (.asg (.n 2) (.call 4 (.cons (.v 0) (.cons (.c (.str "one")) .nil)))) (.cons (.ret (.call 13 (.cons (.v 2) (.cons (.call 4 (.cons (.v 1) (.cons (.c (.str "other")) .nil))) (.cons (.lst .nil) (.cons (.lst .nil) .nil)))))) .nil))
def d_alike : DefI := ⟨"alike", ["one", "other"], ["one", "other", "mine"], ⟨2, 3, b_alike⟩, defArgs (top 29), defBody (top 29), defScope (top 29)⟩
def b_put : Ss := (.cons (.asg (.n 3) (.call 4 (.cons (.v 0) (.cons (.c (.str "writing")) .nil)))) (.cons (.ex (.call 1 (.cons (.v 1) .nil))) (.cons (.ret (.call 11 (.cons (.v 3) (.cons (.v 1) (.cons (.call 4 (.cons (.v 2) (.cons (.c (.str "other")) .nil))) .nil))))) .nil)))
def d_put : DefI := ⟨"put", ["writing", "name", "other"], ["writing", "name", "other", "told"], ⟨3, 4, b_put⟩, defArgs (top 30), defBody (top 30), defScope (top 30)⟩
def b__law_crate : Ss := (.cons (.ret (.new (.cons (.comp false (.n 1) (.sl (.v 0) (.c .non) (.c (.int 62))) (.bi .int (.cons (.v 1) .nil))) (.cons (.c (.int 0)) (.cons (.c (.int 0)) .nil))))) .nil)
def d__law_crate : DefI := ⟨"_law_crate", ["script"], ["script", "cell"], ⟨1, 2, b__law_crate⟩, defArgs (top 32), defBody (top 32), defScope (top 32)⟩
def b__law_haul : Ss := (.cons (.ifs (.cmp .Gt (.ix (.v 0) (.c (.int 2))) (.c (.int 0))) (.cons (.asg (.n 5) (.ix (.v 0) (.c (.int 2)))) (.cons (.put (.v 0) (.c (.int 2)) (.op .FloorDiv (.bi .int (.cons (.v 5) .nil)) (.v 1))) (.cons (.ret (.op .Mod (.bi .int (.cons (.v 5) .nil)) (.v 1))) .nil))) .nil) (.cons (.asg (.n 2) (.ix (.v 0) (.c (.int 1)))) (.cons (.put (.v 0) (.c (.int 1)) (.op .Add (.v 2) (.c (.int 1)))) (.cons (.asg (.n 3) (.op .Add (.op .Mult (.c (.int 83047)) (.v 2)) (.c (.int 5023)))) (.cons (.ifs (.cmp .NotEq (.ix (.v 0) (.c (.int 0))) (.lst .nil)) (.cons (.asg (.n 3) (.ix (.ix (.v 0) (.c (.int 0))) (.op .Mod (.bi .int (.cons (.v 2) .nil)) (.bi .len (.cons (.ix (.v 0) (.c (.int 0))) .nil))))) .nil) .nil) (.cons (.ifs (.and (.cmp .Lt (.v 2) (.bi .len (.cons (.ix (.v 0) (.c (.int 0))) .nil))) (.cmp .GtE (.bi .abs (.cons (.v 3) .nil)) (.op .Pow (.c (.int 10)) (.c (.int 18))))) (.cons (.asg (.n 5) (.op .Add (.op .Mult (.c (.int 2)) (.op .Sub (.bi .abs (.cons (.v 3) .nil)) (.op .Pow (.c (.int 10)) (.c (.int 18))))) (.bi .int (.cons (.cmp .Lt (.v 3) (.c (.int 0))) .nil)))) (.cons (.put (.v 0) (.c (.int 2)) (.op .FloorDiv (.bi .int (.cons (.v 5) .nil)) (.v 1))) (.cons (.ret (.op .Mod (.bi .int (.cons (.v 5) .nil)) (.v 1))) .nil))) .nil) (.cons (.asg (.n 4) (.op .Mod (.bi .int (.cons (.op .Pow (.op .Add (.op .Add (.op .Mod (.bi .int (.cons (.v 3) .nil)) (.c (.int 2147483549))) (.op .Mult (.c (.int 63059)) (.v 2))) (.c (.int 5023))) (.c (.int 5))) .nil)) (.c (.int 2147483399)))) (.cons (.asg (.n 4) (.op .Mod (.bi .int (.cons (.op .Pow (.op .Add (.op .Add (.op .Mult (.v 4) (.op .Add (.op .Mult (.c (.int 2)) (.v 2)) (.c (.int 2579)))) (.op .Mult (.op .Mult (.c (.int 83047)) (.v 2)) (.v 2))) (.c (.int 63059))) (.c (.int 3))) .nil)) (.c (.int 2147483563)))) (.cons (.ret (.op .Mod (.bi .int (.cons (.op .FloorDiv (.v 4) (.c (.int 64))) .nil)) (.v 1))) .nil)))))))))
def d__law_haul : DefI := ⟨"_law_haul", ["crate", "many"], ["crate", "many", "turn", "cell", "mixed", "held"], ⟨2, 6, b__law_haul⟩, defArgs (top 33), defBody (top 33), defScope (top 33)⟩
def b__law_any : Ss := (.cons (.ret (.ix (.v 1) (.call 19 (.cons (.v 0) (.cons (.bi .len (.cons (.v 1) .nil)) .nil))))) .nil)
def d__law_any : DefI := ⟨"_law_any", ["crate", "some"], ["crate", "some"], ⟨2, 2, b__law_any⟩, defArgs (top 34), defBody (top 34), defScope (top 34)⟩
def b__law_drawn : Ss := (.cons (.ifs (.cmp .Eq (.v 1) (.c (.int 1))) (.cons (.ret (.call 20 (.cons (.v 0) (.cons (.v 2) .nil)))) .nil) .nil) (.cons (.ifs (.or (.cmp .Eq (.v 1) (.c (.int 2))) (.and (.cmp .Lt (.v 1) (.c (.int 21))) (.cmp .Gt (.call 19 (.cons (.v 0) (.cons (.c (.int 3)) .nil))) (.c (.int 0))))) (.cons (.ret (.tup (.cons (.c (.str "of")) (.cons (.call 20 (.cons (.v 0) (.cons (.v 2) .nil))) (.cons (.call 21 (.cons (.v 0) (.cons (.op .Sub (.v 1) (.c (.int 1))) (.cons (.v 2) .nil)))) .nil))))) .nil) .nil) (.cons (.asg (.n 3) (.ite (.cmp .Lt (.v 1) (.c (.int 21))) (.op .Add (.c (.int 1)) (.call 19 (.cons (.v 0) (.cons (.op .Sub (.v 1) (.c (.int 2))) .nil)))) (.op .Add (.bi .int (.cons (.op .FloorDiv (.v 1) (.c (.int 3))) .nil)) (.call 19 (.cons (.v 0) (.cons (.bi .int (.cons (.op .FloorDiv (.v 1) (.c (.int 3))) .nil)) .nil)))))) (.cons (.ret (.tup (.cons (.c (.str "to")) (.cons (.call 21 (.cons (.v 0) (.cons (.v 3) (.cons (.v 2) .nil)))) (.cons (.call 21 (.cons (.v 0) (.cons (.op .Sub (.op .Sub (.v 1) (.c (.int 1))) (.v 3)) (.cons (.v 2) .nil)))) .nil))))) .nil))))
def d__law_drawn : DefI := ⟨"_law_drawn", ["crate", "signs", "names"], ["crate", "signs", "names", "first"], ⟨3, 4, b__law_drawn⟩, defArgs (top 35), defBody (top 35), defScope (top 35)⟩
def b__law_listed : Ss := (.cons (.ret (.ite (.isi (.v 0) [.str]) (.v 0) (.comp false (.n 1) (.v 0) (.call 22 (.cons (.v 1) .nil))))) .nil)
def d__law_listed : DefI := ⟨"_law_listed", ["value"], ["value", "part"], ⟨1, 2, b__law_listed⟩, defArgs (top 36), defBody (top 36), defScope (top 36)⟩
def b__law_counted : Ss := (.cons (.ifs (.isi (.v 0) [.str]) (.cons (.ret (.ite (.cmp .In (.v 0) (.v 1)) (.tup (.cons (.c (.str "bound")) (.cons (.meth .index (.v 1) (.cons (.v 0) .nil)) .nil))) (.tup (.cons (.c (.str "free")) (.cons (.v 0) .nil))))) .nil) .nil) (.cons (.ifs (.cmp .Eq (.ix (.v 0) (.c (.int 0))) (.c (.str "of"))) (.cons (.ret (.tup (.cons (.c (.str "of")) (.cons (.call 23 (.cons (.ix (.v 0) (.c (.int 2))) (.cons (.op .Add (.lst (.cons (.ix (.v 0) (.c (.int 1))) .nil)) (.v 1)) .nil))) .nil)))) .nil) .nil) (.cons (.ret (.tup (.cons (.c (.str "to")) (.cons (.call 23 (.cons (.ix (.v 0) (.c (.int 1))) (.cons (.v 1) .nil))) (.cons (.call 23 (.cons (.ix (.v 0) (.c (.int 2))) (.cons (.v 1) .nil))) .nil))))) .nil)))
def d__law_counted : DefI := ⟨"_law_counted", ["writing", "around"], ["writing", "around"], ⟨2, 2, b__law_counted⟩, defArgs (top 37), defBody (top 37), defScope (top 37)⟩
def b__law_put : Ss := (.cons (.ifs (.cmp .In (.ix (.v 0) (.c (.int 0))) (.tup (.cons (.c (.str "bound")) (.cons (.c (.str "free")) .nil)))) (.cons (.ret (.ite (.cmp .Eq (.v 0) (.tup (.cons (.c (.str "free")) (.cons (.v 1) .nil)))) (.v 2) (.v 0))) .nil) .nil) (.cons (.ret (.op .Add (.tup (.cons (.ix (.v 0) (.c (.int 0))) .nil)) (.bi .tuple (.cons (.comp false (.n 3) (.sl (.v 0) (.c (.int 1)) (.c .non)) (.call 24 (.cons (.v 3) (.cons (.v 1) (.cons (.v 2) .nil))))) .nil)))) .nil))
def d__law_put : DefI := ⟨"_law_put", ["told", "name", "other"], ["told", "name", "other", "part"], ⟨3, 4, b__law_put⟩, defArgs (top 38), defBody (top 38), defScope (top 38)⟩
def b__law_scanned : Ss := (.cons (.par [1, 2] (.cons (.new (.cons (.tup (.cons (.v 0) (.cons (.lst .nil) .nil))) .nil)) (.cons (.new .nil) .nil))) (.cons (.wh (.cmp .NotEq (.v 1) (.lst .nil)) (.cons (.asg (.t [3, 4]) (.meth .pop (.v 1) .nil)) (.cons (.ifs (.isi (.v 3) [.str]) (.cons (.ifs (.cmp .NotIn (.v 3) (.op .Add (.v 4) (.v 2))) (.cons (.ex (.meth .append (.v 2) (.cons (.v 3) .nil))) .nil) .nil) .nil) (.cons (.ifs (.cmp .Eq (.ix (.v 3) (.c (.int 0))) (.c (.str "of"))) (.cons (.ex (.meth .append (.v 1) (.cons (.tup (.cons (.ix (.v 3) (.c (.int 2))) (.cons (.op .Add (.v 4) (.lst (.cons (.ix (.v 3) (.c (.int 1))) .nil))) .nil))) .nil))) .nil) (.cons (.ex (.meth .extend (.v 1) (.cons (.lst (.cons (.tup (.cons (.ix (.v 3) (.c (.int 2))) (.cons (.v 4) .nil))) (.cons (.tup (.cons (.ix (.v 3) (.c (.int 1))) (.cons (.v 4) .nil))) .nil))) .nil))) .nil)) .nil)) .nil))) (.cons (.ret (.frz 2)) .nil)))
def d__law_scanned : DefI := ⟨"_law_scanned", ["writing"], ["writing", "left", "found", "part", "around"], ⟨1, 5, b__law_scanned⟩, defArgs (top 39), defBody (top 39), defScope (top 39)⟩
def b__law_uses : Ss := (.cons (.ifs (.cmp .In (.ix (.v 0) (.c (.int 0))) (.tup (.cons (.c (.str "bound")) (.cons (.c (.str "free")) .nil)))) (.cons (.ret (.bi .int (.cons (.cmp .Eq (.v 0) (.tup (.cons (.c (.str "free")) (.cons (.v 1) .nil)))) .nil))) .nil) .nil) (.cons (.ret (.bi .sum (.cons (.comp false (.n 2) (.sl (.v 0) (.c (.int 1)) (.c .non)) (.call 26 (.cons (.v 2) (.cons (.v 1) .nil)))) .nil))) .nil))
def d__law_uses : DefI := ⟨"_law_uses", ["told", "name"], ["told", "name", "part"], ⟨2, 3, b__law_uses⟩, defArgs (top 40), defBody (top 40), defScope (top 40)⟩
def b__law_are_tuples : Ss := (.cons (.ret (.or (.isi (.v 0) [.str]) (.and (.isi (.v 0) [.tuple]) (.cmp .Eq (.compI false (.n 1) (.v 0) (.not (.call 27 (.cons (.v 1) .nil))) (.v 1)) (.lst .nil))))) .nil)
def d__law_are_tuples : DefI := ⟨"_law_are_tuples", ["value"], ["value", "part"], ⟨1, 2, b__law_are_tuples⟩, defArgs (top 41), defBody (top 41), defScope (top 41)⟩
def b__law_put_right : Ss := (.cons (.asg (.n 3) (.call 17 (.cons (.v 0) (.cons (.v 1) (.cons (.v 2) .nil))))) (.cons (.par [4, 5] (.cons (.call 23 (.cons (.v 0) (.cons (.lst .nil) .nil))) (.cons (.call 23 (.cons (.v 2) (.cons (.lst .nil) .nil))) .nil))) (.cons (.ifs (.or (.cmp .IsNot (.call 3 (.cons (.v 3) .nil)) (.c (.bl true))) (.or (.not (.call 27 (.cons (.v 3) .nil))) (.cmp .NotEq (.call 23 (.cons (.v 3) (.cons (.lst .nil) .nil))) (.call 24 (.cons (.v 4) (.cons (.v 1) (.cons (.v 5) .nil))))))) (.cons (.ret (.c (.bl false))) .nil) .nil) (.cons (.asg (.n 6) (.call 26 (.cons (.v 4) (.cons (.v 1) .nil)))) (.cons (.ifs (.cmp .NotEq (.call 14 (.cons (.v 3) .nil)) (.op .Add (.call 14 (.cons (.v 0) .nil)) (.op .Mult (.v 6) (.op .Sub (.call 14 (.cons (.v 2) .nil)) (.c (.int 1)))))) (.cons (.ret (.c (.bl false))) .nil) .nil) (.cons (.asg (.n 7) (.compI false (.n 8) (.call 25 (.cons (.v 0) .nil)) (.cmp .NotEq (.v 8) (.v 1)) (.v 8))) (.cons (.ifs (.cmp .NotEq (.bi .sorted (.cons (.call 15 (.cons (.v 3) .nil)) .nil)) (.sset (.op .Add (.v 7) (.ite (.cmp .Gt (.v 6) (.c (.int 0))) (.call 25 (.cons (.v 2) .nil)) (.lst .nil))))) (.cons (.ret (.c (.bl false))) .nil) .nil) (.cons (.ifs (.cmp .NotEq (.callK 17 .nil (.cons (.call 22 (.cons (.v 2) .nil)) (.cons (.v 1) (.cons (.call 22 (.cons (.v 0) .nil)) Es.nil))) [2, 1, 0]) (.v 3)) (.cons (.ret (.c (.bl false))) .nil) .nil) (.cons (.ret (.or (.cmp .Gt (.v 6) (.c (.int 0))) (.cmp .Is (.call 16 (.cons (.v 3) (.cons (.v 0) .nil))) (.c (.bl true))))) .nil)))))))))
def d__law_put_right : DefI := ⟨"_law_put_right", ["writing", "name", "other"], ["writing", "name", "other", "told", "mine", "its", "uses", "free", "each"], ⟨3, 9, b__law_put_right⟩, defArgs (top 42), defBody (top 42), defScope (top 42)⟩
def b__law_caught : Ss := (.cons (.par [3, 4, 5] (.cons (.ix (.v 1) (.c (.int 0))) (.cons (.bi .list (.cons (.sl (.v 1) (.c (.int 1)) (.c .non)) .nil)) (.cons (.ix (.v 1) (.c (.int 0))) .nil)))) (.cons (.asg (.n 6) (.ix (.v 4) (.c (.int 0)))) (.cons (.for (.n 7) (.rng (.c (.int 0)) (.v 2)) (.cons (.asg (.n 8) (.call 20 (.cons (.v 0) (.cons (.v 4) .nil)))) (.cons (.asg (.n 5) (.tup (.cons (.c (.str "of")) (.cons (.v 8) (.cons (.call 20 (.cons (.v 0) (.cons (.lst (.cons (.tup (.cons (.c (.str "to")) (.cons (.v 5) (.cons (.v 8) .nil)))) (.cons (.tup (.cons (.c (.str "to")) (.cons (.v 8) (.cons (.v 5) .nil)))) (.cons (.tup (.cons (.c (.str "to")) (.cons (.v 5) (.cons (.v 5) .nil)))) (.cons (.v 5) .nil))))) .nil))) .nil))))) (.cons (.asg (.n 6) (.call 20 (.cons (.v 0) (.cons (.lst (.cons (.tup (.cons (.c (.str "to")) (.cons (.v 6) (.cons (.v 8) .nil)))) (.cons (.tup (.cons (.c (.str "of")) (.cons (.c (.str "q")) (.cons (.tup (.cons (.c (.str "to")) (.cons (.v 8) (.cons (.v 6) .nil)))) .nil)))) (.cons (.tup (.cons (.c (.str "to")) (.cons (.v 8) (.cons (.v 6) .nil)))) .nil)))) .nil)))) .nil)))) (.cons (.ret (.tup (.cons (.v 5) (.cons (.v 3) (.cons (.v 6) .nil))))) .nil))))
def d__law_caught : DefI := ⟨"_law_caught", ["crate", "names", "deep"], ["crate", "names", "deep", "name", "left", "inner", "other", "turn", "bound"], ⟨3, 9, b__law_caught⟩, defArgs (top 43), defBody (top 43), defScope (top 43)⟩
def b__law_told_anew : Ss := (.cons (.ifs (.isi (.v 0) [.str]) (.cons (.ret (.ite (.cmp .In (.v 0) (.v 1)) (.op .Add (.c (.str "w")) (.bi .str (.cons (.op .Sub (.op .Sub (.op .Add (.v 2) (.bi .len (.cons (.v 1) .nil))) (.c (.int 1))) (.meth .index (.v 1) (.cons (.v 0) .nil))) .nil))) (.v 0))) .nil) .nil) (.cons (.ifs (.cmp .Eq (.ix (.v 0) (.c (.int 0))) (.c (.str "of"))) (.cons (.ret (.tup (.cons (.c (.str "of")) (.cons (.op .Add (.c (.str "w")) (.bi .str (.cons (.op .Add (.v 2) (.bi .len (.cons (.v 1) .nil))) .nil))) (.cons (.call 30 (.cons (.ix (.v 0) (.c (.int 2))) (.cons (.op .Add (.lst (.cons (.ix (.v 0) (.c (.int 1))) .nil)) (.v 1)) (.cons (.v 2) .nil)))) .nil))))) .nil) .nil) (.cons (.ret (.tup (.cons (.c (.str "to")) (.cons (.call 30 (.cons (.ix (.v 0) (.c (.int 1))) (.cons (.v 1) (.cons (.v 2) .nil)))) (.cons (.call 30 (.cons (.ix (.v 0) (.c (.int 2))) (.cons (.v 1) (.cons (.v 2) .nil)))) .nil))))) .nil)))
def d__law_told_anew : DefI := ⟨"_law_told_anew", ["writing", "around", "at"], ["writing", "around", "at"], ⟨3, 3, b__law_told_anew⟩, defArgs (top 44), defBody (top 44), defScope (top 44)⟩
def b_law : Ss := (.cons (.asg (.n 1) (.call 18 (.cons (.v 0) .nil))) (.cons (.for (.n 2) (.rng (.c (.int 0)) (.c (.int 4))) (.cons (.asg (.n 7) (.call 20 (.cons (.v 1) (.cons (.lst (.cons (.lst (.cons (.c (.str "x")) (.cons (.c (.str "y")) (.cons (.c (.str "z")) .nil)))) (.cons (.lst (.cons (.c (.str "x")) (.cons (.c (.str "x0")) (.cons (.c (.str "x1")) (.cons (.c (.str "x2")) .nil))))) (.cons (.lst (.cons (.c (.str "abcdefghijkl")) (.cons (.c (.str "a")) (.cons (.c (.str "abcdefghijk0")) .nil)))) (.cons (.lst (.cons (.c (.str "f")) (.cons (.c (.str "f1")) (.cons (.c (.str "x")) .nil)))) .nil))))) .nil)))) (.cons (.par [8, 9] (.cons (.call 21 (.cons (.v 1) (.cons (.op .Add (.c (.int 1)) (.call 19 (.cons (.v 1) (.cons (.c (.int 16)) .nil)))) (.cons (.v 7) .nil)))) (.cons (.call 21 (.cons (.v 1) (.cons (.op .Add (.c (.int 1)) (.call 19 (.cons (.v 1) (.cons (.c (.int 8)) .nil)))) (.cons (.v 7) .nil)))) .nil))) (.cons (.for (.n 10) (.v 7) (.cons (.ifs (.or (.not (.call 28 (.cons (.v 8) (.cons (.v 10) (.cons (.v 9) .nil))))) (.cmp .IsNot (.call 16 (.cons (.call 17 (.cons (.v 8) (.cons (.v 10) (.cons (.v 10) .nil)))) (.cons (.v 8) .nil))) (.c (.bl true)))) (.cons (.ret (.c (.bl false))) .nil) .nil) .nil)) (.cons (.asg (.t [11, 10, 12]) (.call 29 (.cons (.v 1) (.cons (.v 7) (.cons (.op .Add (.c (.int 1)) (.call 19 (.cons (.v 1) (.cons (.c (.int 4)) .nil)))) .nil))))) (.cons (.ifs (.or (.not (.call 28 (.cons (.v 11) (.cons (.v 10) (.cons (.v 12) .nil))))) (.or (.not (.call 28 (.cons (.v 11) (.cons (.ix (.v 7) (.neg (.c (.int 1)))) (.cons (.v 12) .nil))))) (.not (.call 28 (.cons (.tup (.cons (.c (.str "to")) (.cons (.v 11) (.cons (.v 8) .nil)))) (.cons (.v 10) (.cons (.v 12) .nil))))))) (.cons (.ret (.c (.bl false))) .nil) .nil) (.cons (.asg (.n 13) (.call 17 (.cons (.call 30 (.cons (.v 8) (.cons (.lst .nil) (.cons (.c (.int 3)) .nil)))) (.cons (.ix (.v 7) (.c (.int 0))) (.cons (.call 30 (.cons (.v 9) (.cons (.lst .nil) (.cons (.c (.int 0)) .nil)))) .nil))))) (.cons (.ifs (.cmp .IsNot (.call 16 (.cons (.v 13) (.cons (.call 17 (.cons (.v 8) (.cons (.ix (.v 7) (.c (.int 0))) (.cons (.v 9) .nil)))) .nil))) (.c (.bl true))) (.cons (.ret (.c (.bl false))) .nil) .nil) .nil)))))))) (.cons (.for (.n 3) (.bi .list (.cons (.c (.str "abcdefghijklmnopqrstuvwxyz")) .nil)) (.cons (.for (.n 14) (.compI false (.n 9) (.tup (.cons (.v 3) (.cons (.op .Add (.v 3) (.c (.str "0"))) (.cons (.op .Add (.v 3) (.c (.str "1"))) (.cons (.op .Add (.v 3) (.c (.str "2"))) .nil))))) (.cmp .NotIn (.v 9) (.tup (.cons (.c (.str "w")) (.cons (.c (.str "y")) .nil)))) (.v 9)) (.cons (.ifs (.cmp .NotEq (.call 15 (.cons (.call 17 (.cons (.tup (.cons (.c (.str "of")) (.cons (.c (.str "y")) (.cons (.tup (.cons (.c (.str "to")) (.cons (.c (.str "w")) (.cons (.v 14) .nil)))) .nil)))) (.cons (.c (.str "w")) (.cons (.c (.str "y")) .nil)))) .nil)) (.tup (.cons (.c (.str "y")) (.cons (.v 14) .nil)))) (.cons (.ret (.c (.bl false))) .nil) .nil) (.cons (.ifs (.cmp .NotEq (.call 15 (.cons (.call 17 (.cons (.tup (.cons (.c (.str "of")) (.cons (.c (.str "y")) (.cons (.tup (.cons (.c (.str "to")) (.cons (.c (.str "w")) (.cons (.c (.str "y")) .nil)))) .nil)))) (.cons (.c (.str "w")) (.cons (.tup (.cons (.c (.str "to")) (.cons (.c (.str "y")) (.cons (.v 14) .nil)))) .nil)))) .nil)) (.tup (.cons (.c (.str "y")) (.cons (.v 14) .nil)))) (.cons (.ret (.c (.bl false))) .nil) .nil) .nil))) .nil)) (.cons (.asg (.t [4, 5]) (.tup (.cons (.c (.str "w")) (.cons (.c (.str "w")) .nil)))) (.cons (.for (.n 6) (.rng (.c (.int 0)) (.c (.int 13))) (.cons (.asg (.n 4) (.tup (.cons (.c (.str "to")) (.cons (.v 4) (.cons (.op .Add (.c (.str "x")) (.bi .str (.cons (.v 6) .nil))) .nil))))) (.cons (.ifs (.cmp .NotEq (.call 15 (.cons (.call 17 (.cons (.tup (.cons (.c (.str "of")) (.cons (.c (.str "y")) (.cons (.tup (.cons (.c (.str "to")) (.cons (.c (.str "w")) (.cons (.op .Add (.c (.str "y")) (.bi .str (.cons (.v 6) .nil))) .nil)))) .nil)))) (.cons (.c (.str "w")) (.cons (.c (.str "y")) .nil)))) .nil)) (.tup (.cons (.c (.str "y")) (.cons (.op .Add (.c (.str "y")) (.bi .str (.cons (.v 6) .nil))) .nil)))) (.cons (.ret (.c (.bl false))) .nil) .nil) .nil))) (.cons (.for (.n 3) (.bi .list (.cons (.c (.str "abcdefghijklmnopqrstuvwxyz")) .nil)) (.cons (.asg (.n 5) (.tup (.cons (.c (.str "to")) (.cons (.v 5) (.cons (.v 3) .nil))))) .nil)) (.cons (.ifs (.or (.not (.call 28 (.cons (.tup (.cons (.c (.str "of")) (.cons (.c (.str "x")) (.cons (.v 4) .nil)))) (.cons (.c (.str "w")) (.cons (.c (.str "x")) .nil))))) (.not (.call 28 (.cons (.tup (.cons (.c (.str "of")) (.cons (.c (.str "x")) (.cons (.v 5) .nil)))) (.cons (.c (.str "w")) (.cons (.c (.str "x")) .nil)))))) (.cons (.ret (.c (.bl false))) .nil) .nil) (.cons (.ret (.and (.cmp .Is (.call 16 (.cons (.call 17 (.cons (.tup (.cons (.c (.str "of")) (.cons (.c (.str "u")) (.cons (.c (.str "w")) .nil)))) (.cons (.c (.str "w")) (.cons (.c (.str "u")) .nil)))) (.cons (.tup (.cons (.c (.str "of")) (.cons (.c (.str "v")) (.cons (.c (.str "u")) .nil)))) .nil))) (.c (.bl true))) (.cmp .Is (.call 16 (.cons (.call 17 (.cons (.tup (.cons (.c (.str "of")) (.cons (.c (.str "u")) (.cons (.c (.str "w")) .nil)))) (.cons (.c (.str "w")) (.cons (.c (.str "u")) .nil)))) (.cons (.tup (.cons (.c (.str "of")) (.cons (.c (.str "u")) (.cons (.c (.str "u")) .nil)))) .nil))) (.c (.bl false))))) .nil))))))))
def d_law : DefI := ⟨"law", ["script"], ["script", "crate", "lap", "letter", "counted", "lettered", "number", "names", "writing", "other", "name", "inner", "its", "anew", "each"], ⟨1, 15, b_law⟩, defArgs (top 45), defBody (top 45), defScope (top 45)⟩
def Ds : List DefI := [d_is_name, d_need_name, d_as_tuples, d_is_writing, d_need_writing, d_signs_in, d_gather_free, d_free_in, d_names_in, d_fresh_name, d_put_in, d_put_for, d_told_by, d_are_alike, d_signs_of, d_free_names, d_alike, d_put, d__law_crate, d__law_haul, d__law_any, d__law_drawn, d__law_listed, d__law_counted, d__law_put, d__law_scanned, d__law_uses, d__law_are_tuples, d__law_put_right, d__law_caught, d__law_told_anew, d_law]
theorem kw_put_0_other_name_writing : KwOk d_put 0 ["other", "name", "writing"] [2, 1, 0] := fun _ _ _ _ _ _ us ws h1 h2 => match us, ws, h1, h2 with | [], [_, _, _], _, _ => rfl
/-- what the top has left beside the defs -/
structure Zs (K : PySem.W.Frag) (mg : Str → Option Value) : Prop where
  g_DIGITS : GlobOk K mg "DIGITS" (.str "0123456789")
  g_LETTERS : GlobOk K mg "LETTERS" (.str "abcdefghijklmnopqrstuvwxyz")
  g_MOST_NAME : GlobOk K mg "MOST_NAME" (.int 12)
  g_OF : GlobOk K mg "OF" (.str "of")
  g_TO : GlobOk K mg "TO" (.str "to")
  g_WORDS : GlobOk K mg "WORDS" (.tup [(.str "of"), (.str "to")])
  f_abs : mg "abs" = none
  f_all : mg "all" = none
  f_int : mg "int" = none
  f_isinstance : mg "isinstance" = none
  f_len : mg "len" = none
  f_list : mg "list" = none
  f_range : mg "range" = none
  f_set : mg "set" = none
  f_sorted : mg "sorted" = none
  f_str : mg "str" = none
  f_sum : mg "sum" = none
  f_tuple : mg "tuple" = none
section
variable {P : Program} {w : World} {K : PySem.W.Frag} {mg : Str → Option Value} {base : Heap} {k : Nat} {f : Addr} {cdv : Value} {A : Around} {outer : List PySem.Env} {s : Shared} {H : Hp}
theorem ok_is_name (Z : Zs K mg) (B : BodyOk (BodyX P w K mg base ["value", "sign"] "is_name" (defScope (top 10)) f cdv A outer s H) Ds 1000000 k) :
    PSs (BodyX P w K mg base ["value", "sign"] "is_name" (defScope (top 10)) f cdv A outer s H) (defBody (top 10)) (tSs K (run (Fns Ds) 1000000 k) 1000000 b_is_name) :=
  (ss_cons (s_if (t_w (w_or (t_not (t_e (i_is1 (by rfl) Z.f_isinstance (i_v (i := 0) (by rfl) (by first | exact .inl rfl | exact .inr (.inl rfl) | exact .inr (.inr rfl))) (ty_ok (by rfl) Z.f_str boot_str)))) (w_or (t_not (t_chain B.ok i_int (i_biB B.ok (b := .len) rfl (by rfl) Z.f_len boot_len (a_cons (i_v (i := 0) (by rfl) (by first | exact .inl rfl | exact .inr (.inl rfl) | exact .inr (.inr rfl))) a_nil)) (i_g (by rfl) Z.g_MOST_NAME))) (w_or (t_cmp B.ok (i_v (i := 0) (by rfl) (by first | exact .inl rfl | exact .inr (.inl rfl) | exact .inr (.inr rfl))) (i_g (by rfl) Z.g_WORDS)) (w_or1 (t_cmp B.ok (i_ix (i_v (i := 0) (by rfl) (by first | exact .inl rfl | exact .inr (.inl rfl) | exact .inr (.inr rfl))) i_int) (i_g (by rfl) Z.g_LETTERS))))))) (ss_cons (s_ret i_bl) ss_nil) ss_nil) (ss_cons (s_ret (i_biB B.ok (b := .all) rfl (by rfl) Z.f_all boot_all (a_cons (i_comp B.ok rfl (it_e (i_v (i := 0) (by rfl) (by first | exact .inl rfl | exact .inr (.inl rfl) | exact .inr (.inr rfl)))) (blkOk_by (N := ["value", "sign"]) (sc := (defScope (top 10))) (own := [("sign", 1)]) (by decide +kernel)) (fun _ _ _ _ _ => (g_n (i := 1) (cok_blk B.ok) rfl (by first | exact .inl rfl | exact .inr rfl) (by first | exact .inl rfl | exact .inr rfl))) (fun _ _ _ _ _ => (i_cmp (cok_blk B.ok) (i_v (i := 1) (by rfl) (by first | exact .inl rfl | exact .inr (.inl rfl) | exact .inr (.inr rfl))) (i_op (i_g (by rfl) Z.g_LETTERS) (i_g (by rfl) Z.g_DIGITS))))) a_nil))) ss_nil))
theorem ok_need_name (Z : Zs K mg) (B : BodyOk (BodyX P w K mg base ["value"] "need_name" (defScope (top 11)) f cdv A outer s H) Ds 1000000 k) :
    PSs (BodyX P w K mg base ["value"] "need_name" (defScope (top 11)) f cdv A outer s H) (defBody (top 11)) (tSs K (run (Fns Ds) 1000000 k) 1000000 b_need_name) :=
  (ss_cons (s_if (t_not (t_e (i_call B.ok (by rfl) (B.call 0 d_is_name rfl) (a_cons (i_v (i := 0) (by rfl) (by first | exact .inl rfl | exact .inr (.inl rfl) | exact .inr (.inr rfl))) a_nil)))) (ss_cons s_never ss_nil) ss_nil) ss_nil)
theorem ok_as_tuples (Z : Zs K mg) (B : BodyOk (BodyX P w K mg base ["value", "part"] "as_tuples" (defScope (top 12)) f cdv A outer s H) Ds 1000000 k) :
    PSs (BodyX P w K mg base ["value", "part"] "as_tuples" (defScope (top 12)) f cdv A outer s H) (defBody (top 12)) (tSs K (run (Fns Ds) 1000000 k) 1000000 b_as_tuples) :=
  (ss_cons (s_ret (i_ite (t_e (i_isT (by decide) (by rfl) Z.f_isinstance (i_v (i := 0) (by rfl) (by first | exact .inl rfl | exact .inr (.inl rfl) | exact .inr (.inr rfl))) (tys_cons (ty_ok (by rfl) Z.f_list boot_list) (tys_cons (ty_ok (by rfl) Z.f_tuple boot_tuple) tys_nil)))) (i_biT B.ok (b := .tuple) rfl (by rfl) Z.f_tuple boot_tuple (a_cons (i_comp B.ok rfl (it_e (i_v (i := 0) (by rfl) (by first | exact .inl rfl | exact .inr (.inl rfl) | exact .inr (.inr rfl)))) (blkOk_by (N := ["value", "part"]) (sc := (defScope (top 12))) (own := [("part", 1)]) (by decide +kernel)) (fun _ _ _ _ _ => (g_n (i := 1) (cok_blk B.ok) rfl (by first | exact .inl rfl | exact .inr rfl) (by first | exact .inl rfl | exact .inr rfl))) (fun _ _ _ _ _ => (i_call (cok_blk B.ok) (by rfl) (call_blk (B.call 2 d_as_tuples rfl)) (a_cons (i_v (i := 1) (by rfl) (by first | exact .inl rfl | exact .inr (.inl rfl) | exact .inr (.inr rfl))) a_nil)))) a_nil)) (i_v (i := 0) (by rfl) (by first | exact .inl rfl | exact .inr (.inl rfl) | exact .inr (.inr rfl))))) ss_nil)
theorem ok_is_writing (Z : Zs K mg) (B : BodyOk (BodyX P w K mg base ["value"] "is_writing" (defScope (top 16)) f cdv A outer s H) Ds 1000000 k) :
    PSs (BodyX P w K mg base ["value"] "is_writing" (defScope (top 16)) f cdv A outer s H) (defBody (top 16)) (tSs K (run (Fns Ds) 1000000 k) 1000000 b_is_writing) :=
  (ss_cons (s_if (t_e (i_is1 (by rfl) Z.f_isinstance (i_v (i := 0) (by rfl) (by first | exact .inl rfl | exact .inr (.inl rfl) | exact .inr (.inr rfl))) (ty_ok (by rfl) Z.f_str boot_str))) (ss_cons (s_ret (i_call B.ok (by rfl) (B.call 0 d_is_name rfl) (a_cons (i_v (i := 0) (by rfl) (by first | exact .inl rfl | exact .inr (.inl rfl) | exact .inr (.inr rfl))) a_nil))) ss_nil) ss_nil) (ss_cons (s_if (t_w (w_or (t_not (t_e (i_isT (by decide) (by rfl) Z.f_isinstance (i_v (i := 0) (by rfl) (by first | exact .inl rfl | exact .inr (.inl rfl) | exact .inr (.inr rfl))) (tys_cons (ty_ok (by rfl) Z.f_list boot_list) (tys_cons (ty_ok (by rfl) Z.f_tuple boot_tuple) tys_nil))))) (w_or (t_cmp B.ok (i_biB B.ok (b := .len) rfl (by rfl) Z.f_len boot_len (a_cons (i_v (i := 0) (by rfl) (by first | exact .inl rfl | exact .inr (.inl rfl) | exact .inr (.inr rfl))) a_nil)) i_int) (w_or1 (t_cmp B.ok (i_ix (i_v (i := 0) (by rfl) (by first | exact .inl rfl | exact .inr (.inl rfl) | exact .inr (.inr rfl))) i_int) (i_tup (a_cons (i_g (by rfl) Z.g_OF) (a_cons (i_g (by rfl) Z.g_TO) a_nil)))))))) (ss_cons (s_ret i_bl) ss_nil) ss_nil) (ss_cons (s_if (t_cmp B.ok (i_ix (i_v (i := 0) (by rfl) (by first | exact .inl rfl | exact .inr (.inl rfl) | exact .inr (.inr rfl))) i_int) (i_g (by rfl) Z.g_OF)) (ss_cons (s_ret (i_and (i_call B.ok (by rfl) (B.call 0 d_is_name rfl) (a_cons (i_ix (i_v (i := 0) (by rfl) (by first | exact .inl rfl | exact .inr (.inl rfl) | exact .inr (.inr rfl))) i_int) a_nil)) (i_one (i_call B.ok (by rfl) (B.call 3 d_is_writing rfl) (a_cons (i_ix (i_v (i := 0) (by rfl) (by first | exact .inl rfl | exact .inr (.inl rfl) | exact .inr (.inr rfl))) i_int) a_nil))))) ss_nil) ss_nil) (ss_cons (s_ret (i_and (i_call B.ok (by rfl) (B.call 3 d_is_writing rfl) (a_cons (i_ix (i_v (i := 0) (by rfl) (by first | exact .inl rfl | exact .inr (.inl rfl) | exact .inr (.inr rfl))) i_int) a_nil)) (i_one (i_call B.ok (by rfl) (B.call 3 d_is_writing rfl) (a_cons (i_ix (i_v (i := 0) (by rfl) (by first | exact .inl rfl | exact .inr (.inl rfl) | exact .inr (.inr rfl))) i_int) a_nil))))) ss_nil))))
theorem ok_need_writing (Z : Zs K mg) (B : BodyOk (BodyX P w K mg base ["value", "part"] "need_writing" (defScope (top 17)) f cdv A outer s H) Ds 1000000 k) :
    PSs (BodyX P w K mg base ["value", "part"] "need_writing" (defScope (top 17)) f cdv A outer s H) (defBody (top 17)) (tSs K (run (Fns Ds) 1000000 k) 1000000 b_need_writing) :=
  (ss_cons (s_if (t_not (t_e (i_call B.ok (by rfl) (B.call 3 d_is_writing rfl) (a_cons (i_v (i := 0) (by rfl) (by first | exact .inl rfl | exact .inr (.inl rfl) | exact .inr (.inr rfl))) a_nil)))) (ss_cons s_never ss_nil) ss_nil) (ss_cons (s_ret (i_call B.ok (by rfl) (B.call 2 d_as_tuples rfl) (a_cons (i_v (i := 0) (by rfl) (by first | exact .inl rfl | exact .inr (.inl rfl) | exact .inr (.inr rfl))) a_nil))) ss_nil))
theorem ok_signs_in (Z : Zs K mg) (B : BodyOk (BodyX P w K mg base ["writing"] "signs_in" (defScope (top 18)) f cdv A outer s H) Ds 1000000 k) :
    PSs (BodyX P w K mg base ["writing"] "signs_in" (defScope (top 18)) f cdv A outer s H) (defBody (top 18)) (tSs K (run (Fns Ds) 1000000 k) 1000000 b_signs_in) :=
  (ss_cons (s_if (t_e (i_is1 (by rfl) Z.f_isinstance (i_v (i := 0) (by rfl) (by first | exact .inl rfl | exact .inr (.inl rfl) | exact .inr (.inr rfl))) (ty_ok (by rfl) Z.f_str boot_str))) (ss_cons (s_ret i_int) ss_nil) ss_nil) (ss_cons (s_ret (i_op (i_op i_int (i_call B.ok (by rfl) (B.call 5 d_signs_in rfl) (a_cons (i_ix (i_v (i := 0) (by rfl) (by first | exact .inl rfl | exact .inr (.inl rfl) | exact .inr (.inr rfl))) i_int) a_nil))) (i_ite (t_cmp B.ok (i_ix (i_v (i := 0) (by rfl) (by first | exact .inl rfl | exact .inr (.inl rfl) | exact .inr (.inr rfl))) i_int) (i_g (by rfl) Z.g_TO)) (i_call B.ok (by rfl) (B.call 5 d_signs_in rfl) (a_cons (i_ix (i_v (i := 0) (by rfl) (by first | exact .inl rfl | exact .inr (.inl rfl) | exact .inr (.inr rfl))) i_int) a_nil)) i_int))) ss_nil))
theorem ok_gather_free (Z : Zs K mg) (B : BodyOk (BodyX P w K mg base ["writing", "bound", "found"] "gather_free" (defScope (top 19)) f cdv A outer s H) Ds 1000000 k) :
    PSs (BodyX P w K mg base ["writing", "bound", "found"] "gather_free" (defScope (top 19)) f cdv A outer s H) (defBody (top 19)) (tSs K (run (Fns Ds) 1000000 k) 1000000 b_gather_free) :=
  (ss_cons (s_if (t_e (i_is1 (by rfl) Z.f_isinstance (i_v (i := 0) (by rfl) (by first | exact .inl rfl | exact .inr (.inl rfl) | exact .inr (.inr rfl))) (ty_ok (by rfl) Z.f_str boot_str))) (ss_cons (s_if (t_w (w_and (t_cmp B.ok (i_v (i := 0) (by rfl) (by first | exact .inl rfl | exact .inr (.inl rfl) | exact .inr (.inr rfl))) (i_v (i := 1) (by rfl) (by first | exact .inl rfl | exact .inr (.inl rfl) | exact .inr (.inr rfl)))) (w_and1 (t_cmp B.ok (i_v (i := 0) (by rfl) (by first | exact .inl rfl | exact .inr (.inl rfl) | exact .inr (.inr rfl))) (i_v (i := 2) (by rfl) (by first | exact .inl rfl | exact .inr (.inl rfl) | exact .inr (.inr rfl))))))) (ss_cons (s_ex (i_me mf_append (i_v (i := 2) (by rfl) (by first | exact .inl rfl | exact .inr (.inl rfl) | exact .inr (.inr rfl))) (a_cons (i_v (i := 0) (by rfl) (by first | exact .inl rfl | exact .inr (.inl rfl) | exact .inr (.inr rfl))) a_nil))) ss_nil) ss_nil) ss_nil) (ss_cons (s_if (t_cmp B.ok (i_ix (i_v (i := 0) (by rfl) (by first | exact .inl rfl | exact .inr (.inl rfl) | exact .inr (.inr rfl))) i_int) (i_g (by rfl) Z.g_OF)) (ss_cons (s_ex (i_call B.ok (by rfl) (B.call 6 d_gather_free rfl) (a_cons (i_ix (i_v (i := 0) (by rfl) (by first | exact .inl rfl | exact .inr (.inl rfl) | exact .inr (.inr rfl))) i_int) (a_cons (i_lst (a_star (i_v (i := 1) (by rfl) (by first | exact .inl rfl | exact .inr (.inl rfl) | exact .inr (.inr rfl))) (a_cons (i_ix (i_v (i := 0) (by rfl) (by first | exact .inl rfl | exact .inr (.inl rfl) | exact .inr (.inr rfl))) i_int) a_nil))) (a_cons (i_v (i := 2) (by rfl) (by first | exact .inl rfl | exact .inr (.inl rfl) | exact .inr (.inr rfl))) a_nil))))) ss_nil) (ss_cons (s_ex (i_call B.ok (by rfl) (B.call 6 d_gather_free rfl) (a_cons (i_ix (i_v (i := 0) (by rfl) (by first | exact .inl rfl | exact .inr (.inl rfl) | exact .inr (.inr rfl))) i_int) (a_cons (i_v (i := 1) (by rfl) (by first | exact .inl rfl | exact .inr (.inl rfl) | exact .inr (.inr rfl))) (a_cons (i_v (i := 2) (by rfl) (by first | exact .inl rfl | exact .inr (.inl rfl) | exact .inr (.inr rfl))) a_nil))))) (ss_cons (s_ex (i_call B.ok (by rfl) (B.call 6 d_gather_free rfl) (a_cons (i_ix (i_v (i := 0) (by rfl) (by first | exact .inl rfl | exact .inr (.inl rfl) | exact .inr (.inr rfl))) i_int) (a_cons (i_v (i := 1) (by rfl) (by first | exact .inl rfl | exact .inr (.inl rfl) | exact .inr (.inr rfl))) (a_cons (i_v (i := 2) (by rfl) (by first | exact .inl rfl | exact .inr (.inl rfl) | exact .inr (.inr rfl))) a_nil))))) ss_nil))) ss_nil)) ss_nil)
theorem ok_free_in (Z : Zs K mg) (B : BodyOk (BodyX P w K mg base ["writing", "found"] "free_in" (defScope (top 20)) f cdv A outer s H) Ds 1000000 k) :
    PSs (BodyX P w K mg base ["writing", "found"] "free_in" (defScope (top 20)) f cdv A outer s H) (defBody (top 20)) (tSs K (run (Fns Ds) 1000000 k) 1000000 b_free_in) :=
  (ss_cons (s_set (i := 1) B.ok rfl (by first | exact .inl rfl | exact .inr rfl) (i_new a_nil) rfl (by first | exact .inl rfl | exact .inr rfl)) (ss_cons (s_ex (i_call B.ok (by rfl) (B.call 6 d_gather_free rfl) (a_cons (i_v (i := 0) (by rfl) (by first | exact .inl rfl | exact .inr (.inl rfl) | exact .inr (.inr rfl))) (a_cons (i_lst a_nil) (a_cons (i_v (i := 1) (by rfl) (by first | exact .inl rfl | exact .inr (.inl rfl) | exact .inr (.inr rfl))) a_nil))))) (ss_cons (s_ret (i_frz (i := 1) (by rfl) (by first | exact .inl rfl | exact .inr (.inl rfl) | exact .inr (.inr rfl)))) ss_nil)))
theorem ok_names_in (Z : Zs K mg) (B : BodyOk (BodyX P w K mg base ["writing"] "names_in" (defScope (top 21)) f cdv A outer s H) Ds 1000000 k) :
    PSs (BodyX P w K mg base ["writing"] "names_in" (defScope (top 21)) f cdv A outer s H) (defBody (top 21)) (tSs K (run (Fns Ds) 1000000 k) 1000000 b_names_in) :=
  (ss_cons (s_if (t_e (i_is1 (by rfl) Z.f_isinstance (i_v (i := 0) (by rfl) (by first | exact .inl rfl | exact .inr (.inl rfl) | exact .inr (.inr rfl))) (ty_ok (by rfl) Z.f_str boot_str))) (ss_cons (s_ret (i_lst (a_cons (i_v (i := 0) (by rfl) (by first | exact .inl rfl | exact .inr (.inl rfl) | exact .inr (.inr rfl))) a_nil))) ss_nil) ss_nil) (ss_cons (s_ret (i_lst (a_star (i_call B.ok (by rfl) (B.call 8 d_names_in rfl) (a_cons (i_ix (i_v (i := 0) (by rfl) (by first | exact .inl rfl | exact .inr (.inl rfl) | exact .inr (.inr rfl))) i_int) a_nil)) (a_star (i_call B.ok (by rfl) (B.call 8 d_names_in rfl) (a_cons (i_ix (i_v (i := 0) (by rfl) (by first | exact .inl rfl | exact .inr (.inl rfl) | exact .inr (.inr rfl))) i_int) a_nil)) a_nil)))) ss_nil))
theorem ok_fresh_name (Z : Zs K mg) (B : BodyOk (BodyX P w K mg base ["name", "taken", "fresh", "number", "each"] "fresh_name" (defScope (top 22)) f cdv A outer s H) Ds 1000000 k) :
    PSs (BodyX P w K mg base ["name", "taken", "fresh", "number", "each"] "fresh_name" (defScope (top 22)) f cdv A outer s H) (defBody (top 22)) (tSs K (run (Fns Ds) 1000000 k) 1000000 b_fresh_name) :=
  (ss_cons (s_setLc (i := 2) B.ok rfl rfl (sw_true rfl rfl rfl (by decide +kernel)) rfl (it_rng1 (by rfl) Z.f_range (i_op (i_biB B.ok (b := .len) rfl (by rfl) Z.f_len boot_len (a_cons (i_v (i := 1) (by rfl) (by first | exact .inl rfl | exact .inr (.inl rfl) | exact .inr (.inr rfl))) a_nil)) i_int)) (blkOk_by (N := ["name", "taken", "fresh", "number", "each"]) (sc := (defScope (top 22))) (own := [("number", 3)]) (by decide +kernel)) (fun _ _ _ _ _ => (g_n (i := 3) (cok_blk B.ok) rfl (by first | exact .inl rfl | exact .inr rfl) (by first | exact .inl rfl | exact .inr rfl))) (fun _ _ _ _ _ => (i_js (.cons (i_fmt (i_ix (i_v (i := 0) (by rfl) (by first | exact .inl rfl | exact .inr (.inl rfl) | exact .inr (.inr rfl))) i_int)) (.cons (i_fmt (i_v (i := 3) (by rfl) (by first | exact .inl rfl | exact .inr (.inl rfl) | exact .inr (.inr rfl)))) .nil))))) (ss_cons (s_ret (i_ix (i_compI B.ok rfl (it_e (i_v (i := 2) (by rfl) (by first | exact .inl rfl | exact .inr (.inl rfl) | exact .inr (.inr rfl)))) (blkOk_by (N := ["name", "taken", "fresh", "number", "each"]) (sc := (defScope (top 22))) (own := [("each", 4)]) (by decide +kernel)) (fun _ _ _ _ _ => (g_n (i := 4) (cok_blk B.ok) rfl (by first | exact .inl rfl | exact .inr rfl) (by first | exact .inl rfl | exact .inr rfl))) (fun _ _ _ _ _ => (t_cmp (cok_blk B.ok) (i_v (i := 4) (by rfl) (by first | exact .inl rfl | exact .inr (.inl rfl) | exact .inr (.inr rfl))) (i_v (i := 1) (by rfl) (by first | exact .inl rfl | exact .inr (.inl rfl) | exact .inr (.inr rfl))))) (fun _ _ _ _ _ => (i_v (i := 4) (by rfl) (by first | exact .inl rfl | exact .inr (.inl rfl) | exact .inr (.inr rfl))))) i_int)) ss_nil))
theorem ok_put_in (Z : Zs K mg) (B : BodyOk (BodyX P w K mg base ["writing", "name", "other", "shut", "own", "body", "fresh"] "put_in" (defScope (top 23)) f cdv A outer s H) Ds 1000000 k) :
    PSs (BodyX P w K mg base ["writing", "name", "other", "shut", "own", "body", "fresh"] "put_in" (defScope (top 23)) f cdv A outer s H) (defBody (top 23)) (tSs K (run (Fns Ds) 1000000 k) 1000000 b_put_in) :=
  (ss_cons (s_if (t_e (i_is1 (by rfl) Z.f_isinstance (i_v (i := 0) (by rfl) (by first | exact .inl rfl | exact .inr (.inl rfl) | exact .inr (.inr rfl))) (ty_ok (by rfl) Z.f_str boot_str))) (ss_cons (s_ret (i_ite (t_cmp B.ok (i_v (i := 0) (by rfl) (by first | exact .inl rfl | exact .inr (.inl rfl) | exact .inr (.inr rfl))) (i_v (i := 1) (by rfl) (by first | exact .inl rfl | exact .inr (.inl rfl) | exact .inr (.inr rfl)))) (i_v (i := 2) (by rfl) (by first | exact .inl rfl | exact .inr (.inl rfl) | exact .inr (.inr rfl))) (i_v (i := 0) (by rfl) (by first | exact .inl rfl | exact .inr (.inl rfl) | exact .inr (.inr rfl))))) ss_nil) ss_nil) (ss_cons (s_if (t_cmp B.ok (i_ix (i_v (i := 0) (by rfl) (by first | exact .inl rfl | exact .inr (.inl rfl) | exact .inr (.inr rfl))) i_int) (i_g (by rfl) Z.g_TO)) (ss_cons (s_ret (i_tup (a_cons (i_g (by rfl) Z.g_TO) (a_cons (i_call B.ok (by rfl) (B.call 10 d_put_in rfl) (a_cons (i_ix (i_v (i := 0) (by rfl) (by first | exact .inl rfl | exact .inr (.inl rfl) | exact .inr (.inr rfl))) i_int) (a_cons (i_v (i := 1) (by rfl) (by first | exact .inl rfl | exact .inr (.inl rfl) | exact .inr (.inr rfl))) (a_cons (i_v (i := 2) (by rfl) (by first | exact .inl rfl | exact .inr (.inl rfl) | exact .inr (.inr rfl))) (a_cons (i_v (i := 3) (by rfl) (by first | exact .inl rfl | exact .inr (.inl rfl) | exact .inr (.inr rfl))) a_nil))))) (a_cons (i_call B.ok (by rfl) (B.call 10 d_put_in rfl) (a_cons (i_ix (i_v (i := 0) (by rfl) (by first | exact .inl rfl | exact .inr (.inl rfl) | exact .inr (.inr rfl))) i_int) (a_cons (i_v (i := 1) (by rfl) (by first | exact .inl rfl | exact .inr (.inl rfl) | exact .inr (.inr rfl))) (a_cons (i_v (i := 2) (by rfl) (by first | exact .inl rfl | exact .inr (.inl rfl) | exact .inr (.inr rfl))) (a_cons (i_v (i := 3) (by rfl) (by first | exact .inl rfl | exact .inr (.inl rfl) | exact .inr (.inr rfl))) a_nil))))) a_nil))))) ss_nil) ss_nil) (ss_cons (s_par2 (i := 4) (j := 5) B.ok rfl rfl (by decide) rfl rfl (a_cons (i_ix (i_v (i := 0) (by rfl) (by first | exact .inl rfl | exact .inr (.inl rfl) | exact .inr (.inr rfl))) i_int) (a_cons (i_ix (i_v (i := 0) (by rfl) (by first | exact .inl rfl | exact .inr (.inl rfl) | exact .inr (.inr rfl))) i_int) a_nil)) rfl) (ss_cons (s_if (t_cmp B.ok (i_v (i := 4) (by rfl) (by first | exact .inl rfl | exact .inr (.inl rfl) | exact .inr (.inr rfl))) (i_v (i := 1) (by rfl) (by first | exact .inl rfl | exact .inr (.inl rfl) | exact .inr (.inr rfl)))) (ss_cons (s_ret (i_v (i := 0) (by rfl) (by first | exact .inl rfl | exact .inr (.inl rfl) | exact .inr (.inr rfl)))) ss_nil) ss_nil) (ss_cons (s_if (t_w (w_and (t_cmp B.ok (i_v (i := 4) (by rfl) (by first | exact .inl rfl | exact .inr (.inl rfl) | exact .inr (.inr rfl))) (i_v (i := 3) (by rfl) (by first | exact .inl rfl | exact .inr (.inl rfl) | exact .inr (.inr rfl)))) (w_and1 (t_cmp B.ok (i_v (i := 1) (by rfl) (by first | exact .inl rfl | exact .inr (.inl rfl) | exact .inr (.inr rfl))) (i_call B.ok (by rfl) (B.call 7 d_free_in rfl) (a_cons (i_v (i := 5) (by rfl) (by first | exact .inl rfl | exact .inr (.inl rfl) | exact .inr (.inr rfl))) a_nil)))))) (ss_cons (s_set (i := 6) B.ok rfl (by first | exact .inl rfl | exact .inr rfl) (i_call B.ok (by rfl) (B.call 9 d_fresh_name rfl) (a_cons (i_v (i := 4) (by rfl) (by first | exact .inl rfl | exact .inr (.inl rfl) | exact .inr (.inr rfl))) (a_cons (i_lst (a_cons (i_v (i := 1) (by rfl) (by first | exact .inl rfl | exact .inr (.inl rfl) | exact .inr (.inr rfl))) (a_star (i_v (i := 3) (by rfl) (by first | exact .inl rfl | exact .inr (.inl rfl) | exact .inr (.inr rfl))) (a_star (i_call B.ok (by rfl) (B.call 8 d_names_in rfl) (a_cons (i_v (i := 5) (by rfl) (by first | exact .inl rfl | exact .inr (.inl rfl) | exact .inr (.inr rfl))) a_nil)) a_nil)))) a_nil))) rfl (by first | exact .inl rfl | exact .inr rfl)) (ss_cons (s_par2 (i := 4) (j := 5) B.ok rfl rfl (by decide) rfl rfl (a_cons (i_v (i := 6) (by rfl) (by first | exact .inl rfl | exact .inr (.inl rfl) | exact .inr (.inr rfl))) (a_cons (i_call B.ok (by rfl) (B.call 10 d_put_in rfl) (a_cons (i_v (i := 5) (by rfl) (by first | exact .inl rfl | exact .inr (.inl rfl) | exact .inr (.inr rfl))) (a_cons (i_v (i := 4) (by rfl) (by first | exact .inl rfl | exact .inr (.inl rfl) | exact .inr (.inr rfl))) (a_cons (i_v (i := 6) (by rfl) (by first | exact .inl rfl | exact .inr (.inl rfl) | exact .inr (.inr rfl))) (a_cons (i_lst (a_cons (i_v (i := 6) (by rfl) (by first | exact .inl rfl | exact .inr (.inl rfl) | exact .inr (.inr rfl))) a_nil)) a_nil))))) a_nil)) rfl) ss_nil)) ss_nil) (ss_cons (s_ret (i_tup (a_cons (i_g (by rfl) Z.g_OF) (a_cons (i_v (i := 4) (by rfl) (by first | exact .inl rfl | exact .inr (.inl rfl) | exact .inr (.inr rfl))) (a_cons (i_call B.ok (by rfl) (B.call 10 d_put_in rfl) (a_cons (i_v (i := 5) (by rfl) (by first | exact .inl rfl | exact .inr (.inl rfl) | exact .inr (.inr rfl))) (a_cons (i_v (i := 1) (by rfl) (by first | exact .inl rfl | exact .inr (.inl rfl) | exact .inr (.inr rfl))) (a_cons (i_v (i := 2) (by rfl) (by first | exact .inl rfl | exact .inr (.inl rfl) | exact .inr (.inr rfl))) (a_cons (i_v (i := 3) (by rfl) (by first | exact .inl rfl | exact .inr (.inl rfl) | exact .inr (.inr rfl))) a_nil))))) a_nil))))) ss_nil))))))
theorem ok_put_for (Z : Zs K mg) (B : BodyOk (BodyX P w K mg base ["writing", "name", "other"] "put_for" (defScope (top 24)) f cdv A outer s H) Ds 1000000 k) :
    PSs (BodyX P w K mg base ["writing", "name", "other"] "put_for" (defScope (top 24)) f cdv A outer s H) (defBody (top 24)) (tSs K (run (Fns Ds) 1000000 k) 1000000 b_put_for) :=
  (ss_cons (s_ret (i_call B.ok (by rfl) (B.call 10 d_put_in rfl) (a_cons (i_v (i := 0) (by rfl) (by first | exact .inl rfl | exact .inr (.inl rfl) | exact .inr (.inr rfl))) (a_cons (i_v (i := 1) (by rfl) (by first | exact .inl rfl | exact .inr (.inl rfl) | exact .inr (.inr rfl))) (a_cons (i_v (i := 2) (by rfl) (by first | exact .inl rfl | exact .inr (.inl rfl) | exact .inr (.inr rfl))) (a_cons (i_call B.ok (by rfl) (B.call 7 d_free_in rfl) (a_cons (i_v (i := 2) (by rfl) (by first | exact .inl rfl | exact .inr (.inl rfl) | exact .inr (.inr rfl))) a_nil)) a_nil)))))) ss_nil)
theorem ok_told_by (Z : Zs K mg) (B : BodyOk (BodyX P w K mg base ["name", "names"] "told_by" (defScope (top 25)) f cdv A outer s H) Ds 1000000 k) :
    PSs (BodyX P w K mg base ["name", "names"] "told_by" (defScope (top 25)) f cdv A outer s H) (defBody (top 25)) (tSs K (run (Fns Ds) 1000000 k) 1000000 b_told_by) :=
  (ss_cons (s_ret (i_ite (t_cmp B.ok (i_v (i := 0) (by rfl) (by first | exact .inl rfl | exact .inr (.inl rfl) | exact .inr (.inr rfl))) (i_v (i := 1) (by rfl) (by first | exact .inl rfl | exact .inr (.inl rfl) | exact .inr (.inr rfl)))) (i_me mf_index (i_v (i := 1) (by rfl) (by first | exact .inl rfl | exact .inr (.inl rfl) | exact .inr (.inr rfl))) (a_cons (i_v (i := 0) (by rfl) (by first | exact .inl rfl | exact .inr (.inl rfl) | exact .inr (.inr rfl))) a_nil)) (i_v (i := 0) (by rfl) (by first | exact .inl rfl | exact .inr (.inl rfl) | exact .inr (.inr rfl))))) ss_nil)
theorem ok_are_alike (Z : Zs K mg) (B : BodyOk (BodyX P w K mg base ["one", "other", "mine", "its"] "are_alike" (defScope (top 26)) f cdv A outer s H) Ds 1000000 k) :
    PSs (BodyX P w K mg base ["one", "other", "mine", "its"] "are_alike" (defScope (top 26)) f cdv A outer s H) (defBody (top 26)) (tSs K (run (Fns Ds) 1000000 k) 1000000 b_are_alike) :=
  (ss_cons (s_if (t_w (w_or (t_e (i_is1 (by rfl) Z.f_isinstance (i_v (i := 0) (by rfl) (by first | exact .inl rfl | exact .inr (.inl rfl) | exact .inr (.inr rfl))) (ty_ok (by rfl) Z.f_str boot_str))) (w_or1 (t_e (i_is1 (by rfl) Z.f_isinstance (i_v (i := 1) (by rfl) (by first | exact .inl rfl | exact .inr (.inl rfl) | exact .inr (.inr rfl))) (ty_ok (by rfl) Z.f_str boot_str)))))) (ss_cons (s_ret (i_and (i_is1 (by rfl) Z.f_isinstance (i_v (i := 0) (by rfl) (by first | exact .inl rfl | exact .inr (.inl rfl) | exact .inr (.inr rfl))) (ty_ok (by rfl) Z.f_str boot_str)) (i_and (i_is1 (by rfl) Z.f_isinstance (i_v (i := 1) (by rfl) (by first | exact .inl rfl | exact .inr (.inl rfl) | exact .inr (.inr rfl))) (ty_ok (by rfl) Z.f_str boot_str)) (i_one (i_cmp B.ok (i_call B.ok (by rfl) (B.call 12 d_told_by rfl) (a_cons (i_v (i := 0) (by rfl) (by first | exact .inl rfl | exact .inr (.inl rfl) | exact .inr (.inr rfl))) (a_cons (i_v (i := 2) (by rfl) (by first | exact .inl rfl | exact .inr (.inl rfl) | exact .inr (.inr rfl))) a_nil))) (i_call B.ok (by rfl) (B.call 12 d_told_by rfl) (a_cons (i_v (i := 1) (by rfl) (by first | exact .inl rfl | exact .inr (.inl rfl) | exact .inr (.inr rfl))) (a_cons (i_v (i := 3) (by rfl) (by first | exact .inl rfl | exact .inr (.inl rfl) | exact .inr (.inr rfl))) a_nil)))))))) ss_nil) ss_nil) (ss_cons (s_if (t_cmp B.ok (i_ix (i_v (i := 0) (by rfl) (by first | exact .inl rfl | exact .inr (.inl rfl) | exact .inr (.inr rfl))) i_int) (i_ix (i_v (i := 1) (by rfl) (by first | exact .inl rfl | exact .inr (.inl rfl) | exact .inr (.inr rfl))) i_int)) (ss_cons (s_ret i_bl) ss_nil) ss_nil) (ss_cons (s_if (t_cmp B.ok (i_ix (i_v (i := 0) (by rfl) (by first | exact .inl rfl | exact .inr (.inl rfl) | exact .inr (.inr rfl))) i_int) (i_g (by rfl) Z.g_OF)) (ss_cons (s_ret (i_call B.ok (by rfl) (B.call 13 d_are_alike rfl) (a_cons (i_ix (i_v (i := 0) (by rfl) (by first | exact .inl rfl | exact .inr (.inl rfl) | exact .inr (.inr rfl))) i_int) (a_cons (i_ix (i_v (i := 1) (by rfl) (by first | exact .inl rfl | exact .inr (.inl rfl) | exact .inr (.inr rfl))) i_int) (a_cons (i_lst (a_cons (i_ix (i_v (i := 0) (by rfl) (by first | exact .inl rfl | exact .inr (.inl rfl) | exact .inr (.inr rfl))) i_int) (a_star (i_v (i := 2) (by rfl) (by first | exact .inl rfl | exact .inr (.inl rfl) | exact .inr (.inr rfl))) a_nil))) (a_cons (i_lst (a_cons (i_ix (i_v (i := 1) (by rfl) (by first | exact .inl rfl | exact .inr (.inl rfl) | exact .inr (.inr rfl))) i_int) (a_star (i_v (i := 3) (by rfl) (by first | exact .inl rfl | exact .inr (.inl rfl) | exact .inr (.inr rfl))) a_nil))) a_nil)))))) ss_nil) ss_nil) (ss_cons (s_ret (i_and (i_call B.ok (by rfl) (B.call 13 d_are_alike rfl) (a_cons (i_ix (i_v (i := 0) (by rfl) (by first | exact .inl rfl | exact .inr (.inl rfl) | exact .inr (.inr rfl))) i_int) (a_cons (i_ix (i_v (i := 1) (by rfl) (by first | exact .inl rfl | exact .inr (.inl rfl) | exact .inr (.inr rfl))) i_int) (a_cons (i_v (i := 2) (by rfl) (by first | exact .inl rfl | exact .inr (.inl rfl) | exact .inr (.inr rfl))) (a_cons (i_v (i := 3) (by rfl) (by first | exact .inl rfl | exact .inr (.inl rfl) | exact .inr (.inr rfl))) a_nil))))) (i_one (i_call B.ok (by rfl) (B.call 13 d_are_alike rfl) (a_cons (i_ix (i_v (i := 0) (by rfl) (by first | exact .inl rfl | exact .inr (.inl rfl) | exact .inr (.inr rfl))) i_int) (a_cons (i_ix (i_v (i := 1) (by rfl) (by first | exact .inl rfl | exact .inr (.inl rfl) | exact .inr (.inr rfl))) i_int) (a_cons (i_v (i := 2) (by rfl) (by first | exact .inl rfl | exact .inr (.inl rfl) | exact .inr (.inr rfl))) (a_cons (i_v (i := 3) (by rfl) (by first | exact .inl rfl | exact .inr (.inl rfl) | exact .inr (.inr rfl))) a_nil)))))))) ss_nil))))
theorem ok_signs_of (Z : Zs K mg) (B : BodyOk (BodyX P w K mg base ["writing"] "signs_of" (defScope (top 27)) f cdv A outer s H) Ds 1000000 k) :
    PSs (BodyX P w K mg base ["writing"] "signs_of" (defScope (top 27)) f cdv A outer s H) (defBody (top 27)) (tSs K (run (Fns Ds) 1000000 k) 1000000 b_signs_of) :=
  (ss_cons (s_ret (i_call B.ok (by rfl) (B.call 5 d_signs_in rfl) (a_cons (i_call B.ok (by rfl) (B.call 4 d_need_writing rfl) (a_cons (i_v (i := 0) (by rfl) (by first | exact .inl rfl | exact .inr (.inl rfl) | exact .inr (.inr rfl))) (a_cons i_str a_nil))) a_nil))) ss_nil)
theorem ok_free_names (Z : Zs K mg) (B : BodyOk (BodyX P w K mg base ["writing"] "free_names" (defScope (top 28)) f cdv A outer s H) Ds 1000000 k) :
    PSs (BodyX P w K mg base ["writing"] "free_names" (defScope (top 28)) f cdv A outer s H) (defBody (top 28)) (tSs K (run (Fns Ds) 1000000 k) 1000000 b_free_names) :=
  (ss_cons (s_ret (i_biT B.ok (b := .tuple) rfl (by rfl) Z.f_tuple boot_tuple (a_cons (i_call B.ok (by rfl) (B.call 7 d_free_in rfl) (a_cons (i_call B.ok (by rfl) (B.call 4 d_need_writing rfl) (a_cons (i_v (i := 0) (by rfl) (by first | exact .inl rfl | exact .inr (.inl rfl) | exact .inr (.inr rfl))) (a_cons i_str a_nil))) a_nil)) a_nil))) ss_nil)
theorem ok_alike (Z : Zs K mg) (B : BodyOk (BodyX P w K mg base ["one", "other", "mine"] "alike" (defScope (top 29)) f cdv A outer s H) Ds 1000000 k) :
    PSs (BodyX P w K mg base ["one", "other", "mine"] "alike" (defScope (top 29)) f cdv A outer s H) (defBody (top 29)) (tSs K (run (Fns Ds) 1000000 k) 1000000 b_alike) :=
  (ss_cons (s_set (i := 2) B.ok rfl (by first | exact .inl rfl | exact .inr rfl) (i_call B.ok (by rfl) (B.call 4 d_need_writing rfl) (a_cons (i_v (i := 0) (by rfl) (by first | exact .inl rfl | exact .inr (.inl rfl) | exact .inr (.inr rfl))) (a_cons i_str a_nil))) rfl (by first | exact .inl rfl | exact .inr rfl)) (ss_cons (s_ret (i_call B.ok (by rfl) (B.call 13 d_are_alike rfl) (a_cons (i_v (i := 2) (by rfl) (by first | exact .inl rfl | exact .inr (.inl rfl) | exact .inr (.inr rfl))) (a_cons (i_call B.ok (by rfl) (B.call 4 d_need_writing rfl) (a_cons (i_v (i := 1) (by rfl) (by first | exact .inl rfl | exact .inr (.inl rfl) | exact .inr (.inr rfl))) (a_cons i_str a_nil))) (a_cons (i_lst a_nil) (a_cons (i_lst a_nil) a_nil)))))) ss_nil))
theorem ok_put (Z : Zs K mg) (B : BodyOk (BodyX P w K mg base ["writing", "name", "other", "told"] "put" (defScope (top 30)) f cdv A outer s H) Ds 1000000 k) :
    PSs (BodyX P w K mg base ["writing", "name", "other", "told"] "put" (defScope (top 30)) f cdv A outer s H) (defBody (top 30)) (tSs K (run (Fns Ds) 1000000 k) 1000000 b_put) :=
  (ss_cons (s_set (i := 3) B.ok rfl (by first | exact .inl rfl | exact .inr rfl) (i_call B.ok (by rfl) (B.call 4 d_need_writing rfl) (a_cons (i_v (i := 0) (by rfl) (by first | exact .inl rfl | exact .inr (.inl rfl) | exact .inr (.inr rfl))) (a_cons i_str a_nil))) rfl (by first | exact .inl rfl | exact .inr rfl)) (ss_cons (s_ex (i_call B.ok (by rfl) (B.call 1 d_need_name rfl) (a_cons (i_v (i := 1) (by rfl) (by first | exact .inl rfl | exact .inr (.inl rfl) | exact .inr (.inr rfl))) a_nil))) (ss_cons (s_ret (i_call B.ok (by rfl) (B.call 11 d_put_for rfl) (a_cons (i_v (i := 3) (by rfl) (by first | exact .inl rfl | exact .inr (.inl rfl) | exact .inr (.inr rfl))) (a_cons (i_v (i := 1) (by rfl) (by first | exact .inl rfl | exact .inr (.inl rfl) | exact .inr (.inr rfl))) (a_cons (i_call B.ok (by rfl) (B.call 4 d_need_writing rfl) (a_cons (i_v (i := 2) (by rfl) (by first | exact .inl rfl | exact .inr (.inl rfl) | exact .inr (.inr rfl))) (a_cons i_str a_nil))) a_nil))))) ss_nil)))
theorem ok__law_crate (Z : Zs K mg) (B : BodyOk (BodyX P w K mg base ["script", "cell"] "_law_crate" (defScope (top 32)) f cdv A outer s H) Ds 1000000 k) :
    PSs (BodyX P w K mg base ["script", "cell"] "_law_crate" (defScope (top 32)) f cdv A outer s H) (defBody (top 32)) (tSs K (run (Fns Ds) 1000000 k) 1000000 b__law_crate) :=
  (ss_cons (s_ret (i_new (a_cons (i_comp B.ok rfl (it_e (i_sl (i_v (i := 0) (by rfl) (by first | exact .inl rfl | exact .inr (.inl rfl) | exact .inr (.inr rfl))) o_none (o_some i_int))) (blkOk_by (N := ["script", "cell"]) (sc := (defScope (top 32))) (own := [("cell", 1)]) (by decide +kernel)) (fun _ _ _ _ _ => (g_n (i := 1) (cok_blk B.ok) rfl (by first | exact .inl rfl | exact .inr rfl) (by first | exact .inl rfl | exact .inr rfl))) (fun _ _ _ _ _ => (i_biT (cok_blk B.ok) (b := .int) rfl (by rfl) Z.f_int boot_int (a_cons (i_v (i := 1) (by rfl) (by first | exact .inl rfl | exact .inr (.inl rfl) | exact .inr (.inr rfl))) a_nil)))) (a_cons i_int (a_cons i_int a_nil))))) ss_nil)
theorem ok__law_haul (Z : Zs K mg) (B : BodyOk (BodyX P w K mg base ["crate", "many", "turn", "cell", "mixed", "held"] "_law_haul" (defScope (top 33)) f cdv A outer s H) Ds 1000000 k) :
    PSs (BodyX P w K mg base ["crate", "many", "turn", "cell", "mixed", "held"] "_law_haul" (defScope (top 33)) f cdv A outer s H) (defBody (top 33)) (tSs K (run (Fns Ds) 1000000 k) 1000000 b__law_haul) :=
  (ss_cons (s_if (t_cmp B.ok (i_ix (i_v (i := 0) (by rfl) (by first | exact .inl rfl | exact .inr (.inl rfl) | exact .inr (.inr rfl))) i_int) i_int) (ss_cons (s_set (i := 5) B.ok rfl (by first | exact .inl rfl | exact .inr rfl) (i_ix (i_v (i := 0) (by rfl) (by first | exact .inl rfl | exact .inr (.inl rfl) | exact .inr (.inr rfl))) i_int) rfl (by first | exact .inl rfl | exact .inr rfl)) (ss_cons (s_put (i_v (i := 0) (by rfl) (by first | exact .inl rfl | exact .inr (.inl rfl) | exact .inr (.inr rfl))) i_int (i_op (i_biT B.ok (b := .int) rfl (by rfl) Z.f_int boot_int (a_cons (i_v (i := 5) (by rfl) (by first | exact .inl rfl | exact .inr (.inl rfl) | exact .inr (.inr rfl))) a_nil)) (i_v (i := 1) (by rfl) (by first | exact .inl rfl | exact .inr (.inl rfl) | exact .inr (.inr rfl))))) (ss_cons (s_ret (i_op (i_biT B.ok (b := .int) rfl (by rfl) Z.f_int boot_int (a_cons (i_v (i := 5) (by rfl) (by first | exact .inl rfl | exact .inr (.inl rfl) | exact .inr (.inr rfl))) a_nil)) (i_v (i := 1) (by rfl) (by first | exact .inl rfl | exact .inr (.inl rfl) | exact .inr (.inr rfl))))) ss_nil))) ss_nil) (ss_cons (s_set (i := 2) B.ok rfl (by first | exact .inl rfl | exact .inr rfl) (i_ix (i_v (i := 0) (by rfl) (by first | exact .inl rfl | exact .inr (.inl rfl) | exact .inr (.inr rfl))) i_int) rfl (by first | exact .inl rfl | exact .inr rfl)) (ss_cons (s_put (i_v (i := 0) (by rfl) (by first | exact .inl rfl | exact .inr (.inl rfl) | exact .inr (.inr rfl))) i_int (i_op (i_v (i := 2) (by rfl) (by first | exact .inl rfl | exact .inr (.inl rfl) | exact .inr (.inr rfl))) i_int)) (ss_cons (s_set (i := 3) B.ok rfl (by first | exact .inl rfl | exact .inr rfl) (i_op (i_op i_int (i_v (i := 2) (by rfl) (by first | exact .inl rfl | exact .inr (.inl rfl) | exact .inr (.inr rfl)))) i_int) rfl (by first | exact .inl rfl | exact .inr rfl)) (ss_cons (s_if (t_cmp B.ok (i_ix (i_v (i := 0) (by rfl) (by first | exact .inl rfl | exact .inr (.inl rfl) | exact .inr (.inr rfl))) i_int) (i_lst a_nil)) (ss_cons (s_set (i := 3) B.ok rfl (by first | exact .inl rfl | exact .inr rfl) (i_ix (i_ix (i_v (i := 0) (by rfl) (by first | exact .inl rfl | exact .inr (.inl rfl) | exact .inr (.inr rfl))) i_int) (i_op (i_biT B.ok (b := .int) rfl (by rfl) Z.f_int boot_int (a_cons (i_v (i := 2) (by rfl) (by first | exact .inl rfl | exact .inr (.inl rfl) | exact .inr (.inr rfl))) a_nil)) (i_biB B.ok (b := .len) rfl (by rfl) Z.f_len boot_len (a_cons (i_ix (i_v (i := 0) (by rfl) (by first | exact .inl rfl | exact .inr (.inl rfl) | exact .inr (.inr rfl))) i_int) a_nil)))) rfl (by first | exact .inl rfl | exact .inr rfl)) ss_nil) ss_nil) (ss_cons (s_if (t_w (w_and (t_cmp B.ok (i_v (i := 2) (by rfl) (by first | exact .inl rfl | exact .inr (.inl rfl) | exact .inr (.inr rfl))) (i_biB B.ok (b := .len) rfl (by rfl) Z.f_len boot_len (a_cons (i_ix (i_v (i := 0) (by rfl) (by first | exact .inl rfl | exact .inr (.inl rfl) | exact .inr (.inr rfl))) i_int) a_nil))) (w_and1 (t_cmp B.ok (i_biB B.ok (b := .abs) rfl (by rfl) Z.f_abs boot_abs (a_cons (i_v (i := 3) (by rfl) (by first | exact .inl rfl | exact .inr (.inl rfl) | exact .inr (.inr rfl))) a_nil)) (i_op i_int i_int))))) (ss_cons (s_set (i := 5) B.ok rfl (by first | exact .inl rfl | exact .inr rfl) (i_op (i_op i_int (i_op (i_biB B.ok (b := .abs) rfl (by rfl) Z.f_abs boot_abs (a_cons (i_v (i := 3) (by rfl) (by first | exact .inl rfl | exact .inr (.inl rfl) | exact .inr (.inr rfl))) a_nil)) (i_op i_int i_int))) (i_biT B.ok (b := .int) rfl (by rfl) Z.f_int boot_int (a_cons (i_cmp B.ok (i_v (i := 3) (by rfl) (by first | exact .inl rfl | exact .inr (.inl rfl) | exact .inr (.inr rfl))) i_int) a_nil))) rfl (by first | exact .inl rfl | exact .inr rfl)) (ss_cons (s_put (i_v (i := 0) (by rfl) (by first | exact .inl rfl | exact .inr (.inl rfl) | exact .inr (.inr rfl))) i_int (i_op (i_biT B.ok (b := .int) rfl (by rfl) Z.f_int boot_int (a_cons (i_v (i := 5) (by rfl) (by first | exact .inl rfl | exact .inr (.inl rfl) | exact .inr (.inr rfl))) a_nil)) (i_v (i := 1) (by rfl) (by first | exact .inl rfl | exact .inr (.inl rfl) | exact .inr (.inr rfl))))) (ss_cons (s_ret (i_op (i_biT B.ok (b := .int) rfl (by rfl) Z.f_int boot_int (a_cons (i_v (i := 5) (by rfl) (by first | exact .inl rfl | exact .inr (.inl rfl) | exact .inr (.inr rfl))) a_nil)) (i_v (i := 1) (by rfl) (by first | exact .inl rfl | exact .inr (.inl rfl) | exact .inr (.inr rfl))))) ss_nil))) ss_nil) (ss_cons (s_set (i := 4) B.ok rfl (by first | exact .inl rfl | exact .inr rfl) (i_op (i_biT B.ok (b := .int) rfl (by rfl) Z.f_int boot_int (a_cons (i_op (i_op (i_op (i_op (i_biT B.ok (b := .int) rfl (by rfl) Z.f_int boot_int (a_cons (i_v (i := 3) (by rfl) (by first | exact .inl rfl | exact .inr (.inl rfl) | exact .inr (.inr rfl))) a_nil)) i_int) (i_op i_int (i_v (i := 2) (by rfl) (by first | exact .inl rfl | exact .inr (.inl rfl) | exact .inr (.inr rfl))))) i_int) i_int) a_nil)) i_int) rfl (by first | exact .inl rfl | exact .inr rfl)) (ss_cons (s_set (i := 4) B.ok rfl (by first | exact .inl rfl | exact .inr rfl) (i_op (i_biT B.ok (b := .int) rfl (by rfl) Z.f_int boot_int (a_cons (i_op (i_op (i_op (i_op (i_v (i := 4) (by rfl) (by first | exact .inl rfl | exact .inr (.inl rfl) | exact .inr (.inr rfl))) (i_op (i_op i_int (i_v (i := 2) (by rfl) (by first | exact .inl rfl | exact .inr (.inl rfl) | exact .inr (.inr rfl)))) i_int)) (i_op (i_op i_int (i_v (i := 2) (by rfl) (by first | exact .inl rfl | exact .inr (.inl rfl) | exact .inr (.inr rfl)))) (i_v (i := 2) (by rfl) (by first | exact .inl rfl | exact .inr (.inl rfl) | exact .inr (.inr rfl))))) i_int) i_int) a_nil)) i_int) rfl (by first | exact .inl rfl | exact .inr rfl)) (ss_cons (s_ret (i_op (i_biT B.ok (b := .int) rfl (by rfl) Z.f_int boot_int (a_cons (i_op (i_v (i := 4) (by rfl) (by first | exact .inl rfl | exact .inr (.inl rfl) | exact .inr (.inr rfl))) i_int) a_nil)) (i_v (i := 1) (by rfl) (by first | exact .inl rfl | exact .inr (.inl rfl) | exact .inr (.inr rfl))))) ss_nil)))))))))
theorem ok__law_any (Z : Zs K mg) (B : BodyOk (BodyX P w K mg base ["crate", "some"] "_law_any" (defScope (top 34)) f cdv A outer s H) Ds 1000000 k) :
    PSs (BodyX P w K mg base ["crate", "some"] "_law_any" (defScope (top 34)) f cdv A outer s H) (defBody (top 34)) (tSs K (run (Fns Ds) 1000000 k) 1000000 b__law_any) :=
  (ss_cons (s_ret (i_ix (i_v (i := 1) (by rfl) (by first | exact .inl rfl | exact .inr (.inl rfl) | exact .inr (.inr rfl))) (i_call B.ok (by rfl) (B.call 19 d__law_haul rfl) (a_cons (i_v (i := 0) (by rfl) (by first | exact .inl rfl | exact .inr (.inl rfl) | exact .inr (.inr rfl))) (a_cons (i_biB B.ok (b := .len) rfl (by rfl) Z.f_len boot_len (a_cons (i_v (i := 1) (by rfl) (by first | exact .inl rfl | exact .inr (.inl rfl) | exact .inr (.inr rfl))) a_nil)) a_nil))))) ss_nil)
theorem ok__law_drawn (Z : Zs K mg) (B : BodyOk (BodyX P w K mg base ["crate", "signs", "names", "first"] "_law_drawn" (defScope (top 35)) f cdv A outer s H) Ds 1000000 k) :
    PSs (BodyX P w K mg base ["crate", "signs", "names", "first"] "_law_drawn" (defScope (top 35)) f cdv A outer s H) (defBody (top 35)) (tSs K (run (Fns Ds) 1000000 k) 1000000 b__law_drawn) :=
  (ss_cons (s_if (t_cmp B.ok (i_v (i := 1) (by rfl) (by first | exact .inl rfl | exact .inr (.inl rfl) | exact .inr (.inr rfl))) i_int) (ss_cons (s_ret (i_call B.ok (by rfl) (B.call 20 d__law_any rfl) (a_cons (i_v (i := 0) (by rfl) (by first | exact .inl rfl | exact .inr (.inl rfl) | exact .inr (.inr rfl))) (a_cons (i_v (i := 2) (by rfl) (by first | exact .inl rfl | exact .inr (.inl rfl) | exact .inr (.inr rfl))) a_nil)))) ss_nil) ss_nil) (ss_cons (s_if (t_w (w_or (t_cmp B.ok (i_v (i := 1) (by rfl) (by first | exact .inl rfl | exact .inr (.inl rfl) | exact .inr (.inr rfl))) i_int) (w_or1 (t_w (w_and (t_cmp B.ok (i_v (i := 1) (by rfl) (by first | exact .inl rfl | exact .inr (.inl rfl) | exact .inr (.inr rfl))) i_int) (w_and1 (t_cmp B.ok (i_call B.ok (by rfl) (B.call 19 d__law_haul rfl) (a_cons (i_v (i := 0) (by rfl) (by first | exact .inl rfl | exact .inr (.inl rfl) | exact .inr (.inr rfl))) (a_cons i_int a_nil))) i_int))))))) (ss_cons (s_ret (i_tup (a_cons i_str (a_cons (i_call B.ok (by rfl) (B.call 20 d__law_any rfl) (a_cons (i_v (i := 0) (by rfl) (by first | exact .inl rfl | exact .inr (.inl rfl) | exact .inr (.inr rfl))) (a_cons (i_v (i := 2) (by rfl) (by first | exact .inl rfl | exact .inr (.inl rfl) | exact .inr (.inr rfl))) a_nil))) (a_cons (i_call B.ok (by rfl) (B.call 21 d__law_drawn rfl) (a_cons (i_v (i := 0) (by rfl) (by first | exact .inl rfl | exact .inr (.inl rfl) | exact .inr (.inr rfl))) (a_cons (i_op (i_v (i := 1) (by rfl) (by first | exact .inl rfl | exact .inr (.inl rfl) | exact .inr (.inr rfl))) i_int) (a_cons (i_v (i := 2) (by rfl) (by first | exact .inl rfl | exact .inr (.inl rfl) | exact .inr (.inr rfl))) a_nil)))) a_nil))))) ss_nil) ss_nil) (ss_cons (s_set (i := 3) B.ok rfl (by first | exact .inl rfl | exact .inr rfl) (i_ite (t_cmp B.ok (i_v (i := 1) (by rfl) (by first | exact .inl rfl | exact .inr (.inl rfl) | exact .inr (.inr rfl))) i_int) (i_op i_int (i_call B.ok (by rfl) (B.call 19 d__law_haul rfl) (a_cons (i_v (i := 0) (by rfl) (by first | exact .inl rfl | exact .inr (.inl rfl) | exact .inr (.inr rfl))) (a_cons (i_op (i_v (i := 1) (by rfl) (by first | exact .inl rfl | exact .inr (.inl rfl) | exact .inr (.inr rfl))) i_int) a_nil)))) (i_op (i_biT B.ok (b := .int) rfl (by rfl) Z.f_int boot_int (a_cons (i_op (i_v (i := 1) (by rfl) (by first | exact .inl rfl | exact .inr (.inl rfl) | exact .inr (.inr rfl))) i_int) a_nil)) (i_call B.ok (by rfl) (B.call 19 d__law_haul rfl) (a_cons (i_v (i := 0) (by rfl) (by first | exact .inl rfl | exact .inr (.inl rfl) | exact .inr (.inr rfl))) (a_cons (i_biT B.ok (b := .int) rfl (by rfl) Z.f_int boot_int (a_cons (i_op (i_v (i := 1) (by rfl) (by first | exact .inl rfl | exact .inr (.inl rfl) | exact .inr (.inr rfl))) i_int) a_nil)) a_nil))))) rfl (by first | exact .inl rfl | exact .inr rfl)) (ss_cons (s_ret (i_tup (a_cons i_str (a_cons (i_call B.ok (by rfl) (B.call 21 d__law_drawn rfl) (a_cons (i_v (i := 0) (by rfl) (by first | exact .inl rfl | exact .inr (.inl rfl) | exact .inr (.inr rfl))) (a_cons (i_v (i := 3) (by rfl) (by first | exact .inl rfl | exact .inr (.inl rfl) | exact .inr (.inr rfl))) (a_cons (i_v (i := 2) (by rfl) (by first | exact .inl rfl | exact .inr (.inl rfl) | exact .inr (.inr rfl))) a_nil)))) (a_cons (i_call B.ok (by rfl) (B.call 21 d__law_drawn rfl) (a_cons (i_v (i := 0) (by rfl) (by first | exact .inl rfl | exact .inr (.inl rfl) | exact .inr (.inr rfl))) (a_cons (i_op (i_op (i_v (i := 1) (by rfl) (by first | exact .inl rfl | exact .inr (.inl rfl) | exact .inr (.inr rfl))) i_int) (i_v (i := 3) (by rfl) (by first | exact .inl rfl | exact .inr (.inl rfl) | exact .inr (.inr rfl)))) (a_cons (i_v (i := 2) (by rfl) (by first | exact .inl rfl | exact .inr (.inl rfl) | exact .inr (.inr rfl))) a_nil)))) a_nil))))) ss_nil))))
theorem ok__law_listed (Z : Zs K mg) (B : BodyOk (BodyX P w K mg base ["value", "part"] "_law_listed" (defScope (top 36)) f cdv A outer s H) Ds 1000000 k) :
    PSs (BodyX P w K mg base ["value", "part"] "_law_listed" (defScope (top 36)) f cdv A outer s H) (defBody (top 36)) (tSs K (run (Fns Ds) 1000000 k) 1000000 b__law_listed) :=
  (ss_cons (s_ret (i_ite (t_e (i_is1 (by rfl) Z.f_isinstance (i_v (i := 0) (by rfl) (by first | exact .inl rfl | exact .inr (.inl rfl) | exact .inr (.inr rfl))) (ty_ok (by rfl) Z.f_str boot_str))) (i_v (i := 0) (by rfl) (by first | exact .inl rfl | exact .inr (.inl rfl) | exact .inr (.inr rfl))) (i_comp B.ok rfl (it_e (i_v (i := 0) (by rfl) (by first | exact .inl rfl | exact .inr (.inl rfl) | exact .inr (.inr rfl)))) (blkOk_by (N := ["value", "part"]) (sc := (defScope (top 36))) (own := [("part", 1)]) (by decide +kernel)) (fun _ _ _ _ _ => (g_n (i := 1) (cok_blk B.ok) rfl (by first | exact .inl rfl | exact .inr rfl) (by first | exact .inl rfl | exact .inr rfl))) (fun _ _ _ _ _ => (i_call (cok_blk B.ok) (by rfl) (call_blk (B.call 22 d__law_listed rfl)) (a_cons (i_v (i := 1) (by rfl) (by first | exact .inl rfl | exact .inr (.inl rfl) | exact .inr (.inr rfl))) a_nil)))))) ss_nil)
theorem ok__law_counted (Z : Zs K mg) (B : BodyOk (BodyX P w K mg base ["writing", "around"] "_law_counted" (defScope (top 37)) f cdv A outer s H) Ds 1000000 k) :
    PSs (BodyX P w K mg base ["writing", "around"] "_law_counted" (defScope (top 37)) f cdv A outer s H) (defBody (top 37)) (tSs K (run (Fns Ds) 1000000 k) 1000000 b__law_counted) :=
  (ss_cons (s_if (t_e (i_is1 (by rfl) Z.f_isinstance (i_v (i := 0) (by rfl) (by first | exact .inl rfl | exact .inr (.inl rfl) | exact .inr (.inr rfl))) (ty_ok (by rfl) Z.f_str boot_str))) (ss_cons (s_ret (i_ite (t_cmp B.ok (i_v (i := 0) (by rfl) (by first | exact .inl rfl | exact .inr (.inl rfl) | exact .inr (.inr rfl))) (i_v (i := 1) (by rfl) (by first | exact .inl rfl | exact .inr (.inl rfl) | exact .inr (.inr rfl)))) (i_tup (a_cons i_str (a_cons (i_me mf_index (i_v (i := 1) (by rfl) (by first | exact .inl rfl | exact .inr (.inl rfl) | exact .inr (.inr rfl))) (a_cons (i_v (i := 0) (by rfl) (by first | exact .inl rfl | exact .inr (.inl rfl) | exact .inr (.inr rfl))) a_nil)) a_nil))) (i_tup (a_cons i_str (a_cons (i_v (i := 0) (by rfl) (by first | exact .inl rfl | exact .inr (.inl rfl) | exact .inr (.inr rfl))) a_nil))))) ss_nil) ss_nil) (ss_cons (s_if (t_cmp B.ok (i_ix (i_v (i := 0) (by rfl) (by first | exact .inl rfl | exact .inr (.inl rfl) | exact .inr (.inr rfl))) i_int) i_str) (ss_cons (s_ret (i_tup (a_cons i_str (a_cons (i_call B.ok (by rfl) (B.call 23 d__law_counted rfl) (a_cons (i_ix (i_v (i := 0) (by rfl) (by first | exact .inl rfl | exact .inr (.inl rfl) | exact .inr (.inr rfl))) i_int) (a_cons (i_op (i_lst (a_cons (i_ix (i_v (i := 0) (by rfl) (by first | exact .inl rfl | exact .inr (.inl rfl) | exact .inr (.inr rfl))) i_int) a_nil)) (i_v (i := 1) (by rfl) (by first | exact .inl rfl | exact .inr (.inl rfl) | exact .inr (.inr rfl)))) a_nil))) a_nil)))) ss_nil) ss_nil) (ss_cons (s_ret (i_tup (a_cons i_str (a_cons (i_call B.ok (by rfl) (B.call 23 d__law_counted rfl) (a_cons (i_ix (i_v (i := 0) (by rfl) (by first | exact .inl rfl | exact .inr (.inl rfl) | exact .inr (.inr rfl))) i_int) (a_cons (i_v (i := 1) (by rfl) (by first | exact .inl rfl | exact .inr (.inl rfl) | exact .inr (.inr rfl))) a_nil))) (a_cons (i_call B.ok (by rfl) (B.call 23 d__law_counted rfl) (a_cons (i_ix (i_v (i := 0) (by rfl) (by first | exact .inl rfl | exact .inr (.inl rfl) | exact .inr (.inr rfl))) i_int) (a_cons (i_v (i := 1) (by rfl) (by first | exact .inl rfl | exact .inr (.inl rfl) | exact .inr (.inr rfl))) a_nil))) a_nil))))) ss_nil)))
theorem ok__law_put (Z : Zs K mg) (B : BodyOk (BodyX P w K mg base ["told", "name", "other", "part"] "_law_put" (defScope (top 38)) f cdv A outer s H) Ds 1000000 k) :
    PSs (BodyX P w K mg base ["told", "name", "other", "part"] "_law_put" (defScope (top 38)) f cdv A outer s H) (defBody (top 38)) (tSs K (run (Fns Ds) 1000000 k) 1000000 b__law_put) :=
  (ss_cons (s_if (t_cmp B.ok (i_ix (i_v (i := 0) (by rfl) (by first | exact .inl rfl | exact .inr (.inl rfl) | exact .inr (.inr rfl))) i_int) (i_tup (a_cons i_str (a_cons i_str a_nil)))) (ss_cons (s_ret (i_ite (t_cmp B.ok (i_v (i := 0) (by rfl) (by first | exact .inl rfl | exact .inr (.inl rfl) | exact .inr (.inr rfl))) (i_tup (a_cons i_str (a_cons (i_v (i := 1) (by rfl) (by first | exact .inl rfl | exact .inr (.inl rfl) | exact .inr (.inr rfl))) a_nil)))) (i_v (i := 2) (by rfl) (by first | exact .inl rfl | exact .inr (.inl rfl) | exact .inr (.inr rfl))) (i_v (i := 0) (by rfl) (by first | exact .inl rfl | exact .inr (.inl rfl) | exact .inr (.inr rfl))))) ss_nil) ss_nil) (ss_cons (s_ret (i_op (i_tup (a_cons (i_ix (i_v (i := 0) (by rfl) (by first | exact .inl rfl | exact .inr (.inl rfl) | exact .inr (.inr rfl))) i_int) a_nil)) (i_biT B.ok (b := .tuple) rfl (by rfl) Z.f_tuple boot_tuple (a_cons (i_comp B.ok rfl (it_e (i_sl (i_v (i := 0) (by rfl) (by first | exact .inl rfl | exact .inr (.inl rfl) | exact .inr (.inr rfl))) (o_some i_int) o_none)) (blkOk_by (N := ["told", "name", "other", "part"]) (sc := (defScope (top 38))) (own := [("part", 3)]) (by decide +kernel)) (fun _ _ _ _ _ => (g_n (i := 3) (cok_blk B.ok) rfl (by first | exact .inl rfl | exact .inr rfl) (by first | exact .inl rfl | exact .inr rfl))) (fun _ _ _ _ _ => (i_call (cok_blk B.ok) (by rfl) (call_blk (B.call 24 d__law_put rfl)) (a_cons (i_v (i := 3) (by rfl) (by first | exact .inl rfl | exact .inr (.inl rfl) | exact .inr (.inr rfl))) (a_cons (i_v (i := 1) (by rfl) (by first | exact .inl rfl | exact .inr (.inl rfl) | exact .inr (.inr rfl))) (a_cons (i_v (i := 2) (by rfl) (by first | exact .inl rfl | exact .inr (.inl rfl) | exact .inr (.inr rfl))) a_nil)))))) a_nil)))) ss_nil))
theorem ok__law_scanned (Z : Zs K mg) (B : BodyOk (BodyX P w K mg base ["writing", "left", "found", "part", "around"] "_law_scanned" (defScope (top 39)) f cdv A outer s H) Ds 1000000 k) :
    PSs (BodyX P w K mg base ["writing", "left", "found", "part", "around"] "_law_scanned" (defScope (top 39)) f cdv A outer s H) (defBody (top 39)) (tSs K (run (Fns Ds) 1000000 k) 1000000 b__law_scanned) :=
  (ss_cons (s_par2 (i := 1) (j := 2) B.ok rfl rfl (by decide) rfl rfl (a_cons (i_new (a_cons (i_tup (a_cons (i_v (i := 0) (by rfl) (by first | exact .inl rfl | exact .inr (.inl rfl) | exact .inr (.inr rfl))) (a_cons (i_lst a_nil) a_nil))) a_nil)) (a_cons (i_new a_nil) a_nil)) rfl) (ss_cons (s_wh PassesOwn.never (t_cmp B.ok (i_v (i := 1) (by rfl) (by first | exact .inl rfl | exact .inr (.inl rfl) | exact .inr (.inr rfl))) (i_lst a_nil)) (ss_cons (s_asg (i_me0 mf_pop (i_v (i := 1) (by rfl) (by first | exact .inl rfl | exact .inr (.inl rfl) | exact .inr (.inr rfl)))) (g_t B.ok (.cons (i := 3) rfl (by first | exact .inl rfl | exact .inr rfl) (by first | exact .inl rfl | exact .inr rfl) (.cons (i := 4) rfl (by first | exact .inl rfl | exact .inr rfl) (by first | exact .inl rfl | exact .inr rfl) .nil)))) (ss_cons (s_if (t_e (i_is1 (by rfl) Z.f_isinstance (i_v (i := 3) (by rfl) (by first | exact .inl rfl | exact .inr (.inl rfl) | exact .inr (.inr rfl))) (ty_ok (by rfl) Z.f_str boot_str))) (ss_cons (s_if (t_cmp B.ok (i_v (i := 3) (by rfl) (by first | exact .inl rfl | exact .inr (.inl rfl) | exact .inr (.inr rfl))) (i_op (i_v (i := 4) (by rfl) (by first | exact .inl rfl | exact .inr (.inl rfl) | exact .inr (.inr rfl))) (i_v (i := 2) (by rfl) (by first | exact .inl rfl | exact .inr (.inl rfl) | exact .inr (.inr rfl))))) (ss_cons (s_ex (i_me mf_append (i_v (i := 2) (by rfl) (by first | exact .inl rfl | exact .inr (.inl rfl) | exact .inr (.inr rfl))) (a_cons (i_v (i := 3) (by rfl) (by first | exact .inl rfl | exact .inr (.inl rfl) | exact .inr (.inr rfl))) a_nil))) ss_nil) ss_nil) ss_nil) (ss_cons (s_if (t_cmp B.ok (i_ix (i_v (i := 3) (by rfl) (by first | exact .inl rfl | exact .inr (.inl rfl) | exact .inr (.inr rfl))) i_int) i_str) (ss_cons (s_ex (i_me mf_append (i_v (i := 1) (by rfl) (by first | exact .inl rfl | exact .inr (.inl rfl) | exact .inr (.inr rfl))) (a_cons (i_tup (a_cons (i_ix (i_v (i := 3) (by rfl) (by first | exact .inl rfl | exact .inr (.inl rfl) | exact .inr (.inr rfl))) i_int) (a_cons (i_op (i_v (i := 4) (by rfl) (by first | exact .inl rfl | exact .inr (.inl rfl) | exact .inr (.inr rfl))) (i_lst (a_cons (i_ix (i_v (i := 3) (by rfl) (by first | exact .inl rfl | exact .inr (.inl rfl) | exact .inr (.inr rfl))) i_int) a_nil))) a_nil))) a_nil))) ss_nil) (ss_cons (s_ex (i_me mf_extend (i_v (i := 1) (by rfl) (by first | exact .inl rfl | exact .inr (.inl rfl) | exact .inr (.inr rfl))) (a_cons (i_lst (a_cons (i_tup (a_cons (i_ix (i_v (i := 3) (by rfl) (by first | exact .inl rfl | exact .inr (.inl rfl) | exact .inr (.inr rfl))) i_int) (a_cons (i_v (i := 4) (by rfl) (by first | exact .inl rfl | exact .inr (.inl rfl) | exact .inr (.inr rfl))) a_nil))) (a_cons (i_tup (a_cons (i_ix (i_v (i := 3) (by rfl) (by first | exact .inl rfl | exact .inr (.inl rfl) | exact .inr (.inr rfl))) i_int) (a_cons (i_v (i := 4) (by rfl) (by first | exact .inl rfl | exact .inr (.inl rfl) | exact .inr (.inr rfl))) a_nil))) a_nil))) a_nil))) ss_nil)) ss_nil)) ss_nil))) (ss_cons (s_ret (i_frz (i := 2) (by rfl) (by first | exact .inl rfl | exact .inr (.inl rfl) | exact .inr (.inr rfl)))) ss_nil)))
theorem ok__law_uses (Z : Zs K mg) (B : BodyOk (BodyX P w K mg base ["told", "name", "part"] "_law_uses" (defScope (top 40)) f cdv A outer s H) Ds 1000000 k) :
    PSs (BodyX P w K mg base ["told", "name", "part"] "_law_uses" (defScope (top 40)) f cdv A outer s H) (defBody (top 40)) (tSs K (run (Fns Ds) 1000000 k) 1000000 b__law_uses) :=
  (ss_cons (s_if (t_cmp B.ok (i_ix (i_v (i := 0) (by rfl) (by first | exact .inl rfl | exact .inr (.inl rfl) | exact .inr (.inr rfl))) i_int) (i_tup (a_cons i_str (a_cons i_str a_nil)))) (ss_cons (s_ret (i_biT B.ok (b := .int) rfl (by rfl) Z.f_int boot_int (a_cons (i_cmp B.ok (i_v (i := 0) (by rfl) (by first | exact .inl rfl | exact .inr (.inl rfl) | exact .inr (.inr rfl))) (i_tup (a_cons i_str (a_cons (i_v (i := 1) (by rfl) (by first | exact .inl rfl | exact .inr (.inl rfl) | exact .inr (.inr rfl))) a_nil)))) a_nil))) ss_nil) ss_nil) (ss_cons (s_ret (i_biB B.ok (b := .sum) rfl (by rfl) Z.f_sum boot_sum (a_cons (i_comp B.ok rfl (it_e (i_sl (i_v (i := 0) (by rfl) (by first | exact .inl rfl | exact .inr (.inl rfl) | exact .inr (.inr rfl))) (o_some i_int) o_none)) (blkOk_by (N := ["told", "name", "part"]) (sc := (defScope (top 40))) (own := [("part", 2)]) (by decide +kernel)) (fun _ _ _ _ _ => (g_n (i := 2) (cok_blk B.ok) rfl (by first | exact .inl rfl | exact .inr rfl) (by first | exact .inl rfl | exact .inr rfl))) (fun _ _ _ _ _ => (i_call (cok_blk B.ok) (by rfl) (call_blk (B.call 26 d__law_uses rfl)) (a_cons (i_v (i := 2) (by rfl) (by first | exact .inl rfl | exact .inr (.inl rfl) | exact .inr (.inr rfl))) (a_cons (i_v (i := 1) (by rfl) (by first | exact .inl rfl | exact .inr (.inl rfl) | exact .inr (.inr rfl))) a_nil))))) a_nil))) ss_nil))
theorem ok__law_are_tuples (Z : Zs K mg) (B : BodyOk (BodyX P w K mg base ["value", "part"] "_law_are_tuples" (defScope (top 41)) f cdv A outer s H) Ds 1000000 k) :
    PSs (BodyX P w K mg base ["value", "part"] "_law_are_tuples" (defScope (top 41)) f cdv A outer s H) (defBody (top 41)) (tSs K (run (Fns Ds) 1000000 k) 1000000 b__law_are_tuples) :=
  (ss_cons (s_ret (i_or (i_is1 (by rfl) Z.f_isinstance (i_v (i := 0) (by rfl) (by first | exact .inl rfl | exact .inr (.inl rfl) | exact .inr (.inr rfl))) (ty_ok (by rfl) Z.f_str boot_str)) (i_one (i_and (i_is1 (by rfl) Z.f_isinstance (i_v (i := 0) (by rfl) (by first | exact .inl rfl | exact .inr (.inl rfl) | exact .inr (.inr rfl))) (ty_ok (by rfl) Z.f_tuple boot_tuple)) (i_one (i_cmp B.ok (i_compI B.ok rfl (it_e (i_v (i := 0) (by rfl) (by first | exact .inl rfl | exact .inr (.inl rfl) | exact .inr (.inr rfl)))) (blkOk_by (N := ["value", "part"]) (sc := (defScope (top 41))) (own := [("part", 1)]) (by decide +kernel)) (fun _ _ _ _ _ => (g_n (i := 1) (cok_blk B.ok) rfl (by first | exact .inl rfl | exact .inr rfl) (by first | exact .inl rfl | exact .inr rfl))) (fun _ _ _ _ _ => (t_not (t_e (i_call (cok_blk B.ok) (by rfl) (call_blk (B.call 27 d__law_are_tuples rfl)) (a_cons (i_v (i := 1) (by rfl) (by first | exact .inl rfl | exact .inr (.inl rfl) | exact .inr (.inr rfl))) a_nil))))) (fun _ _ _ _ _ => (i_v (i := 1) (by rfl) (by first | exact .inl rfl | exact .inr (.inl rfl) | exact .inr (.inr rfl))))) (i_lst a_nil))))))) ss_nil)
theorem ok__law_put_right (Z : Zs K mg) (B : BodyOk (BodyX P w K mg base ["writing", "name", "other", "told", "mine", "its", "uses", "free", "each"] "_law_put_right" (defScope (top 42)) f cdv A outer s H) Ds 1000000 k) :
    PSs (BodyX P w K mg base ["writing", "name", "other", "told", "mine", "its", "uses", "free", "each"] "_law_put_right" (defScope (top 42)) f cdv A outer s H) (defBody (top 42)) (tSs K (run (Fns Ds) 1000000 k) 1000000 b__law_put_right) :=
  (ss_cons (s_set (i := 3) B.ok rfl (by first | exact .inl rfl | exact .inr rfl) (i_call B.ok (by rfl) (B.call 17 d_put rfl) (a_cons (i_v (i := 0) (by rfl) (by first | exact .inl rfl | exact .inr (.inl rfl) | exact .inr (.inr rfl))) (a_cons (i_v (i := 1) (by rfl) (by first | exact .inl rfl | exact .inr (.inl rfl) | exact .inr (.inr rfl))) (a_cons (i_v (i := 2) (by rfl) (by first | exact .inl rfl | exact .inr (.inl rfl) | exact .inr (.inr rfl))) a_nil)))) rfl (by first | exact .inl rfl | exact .inr rfl)) (ss_cons (s_par2 (i := 4) (j := 5) B.ok rfl rfl (by decide) rfl rfl (a_cons (i_call B.ok (by rfl) (B.call 23 d__law_counted rfl) (a_cons (i_v (i := 0) (by rfl) (by first | exact .inl rfl | exact .inr (.inl rfl) | exact .inr (.inr rfl))) (a_cons (i_lst a_nil) a_nil))) (a_cons (i_call B.ok (by rfl) (B.call 23 d__law_counted rfl) (a_cons (i_v (i := 2) (by rfl) (by first | exact .inl rfl | exact .inr (.inl rfl) | exact .inr (.inr rfl))) (a_cons (i_lst a_nil) a_nil))) a_nil)) rfl) (ss_cons (s_if (t_w (w_or (t_cmp B.ok (i_call B.ok (by rfl) (B.call 3 d_is_writing rfl) (a_cons (i_v (i := 3) (by rfl) (by first | exact .inl rfl | exact .inr (.inl rfl) | exact .inr (.inr rfl))) a_nil)) i_bl) (w_or (t_not (t_e (i_call B.ok (by rfl) (B.call 27 d__law_are_tuples rfl) (a_cons (i_v (i := 3) (by rfl) (by first | exact .inl rfl | exact .inr (.inl rfl) | exact .inr (.inr rfl))) a_nil)))) (w_or1 (t_cmp B.ok (i_call B.ok (by rfl) (B.call 23 d__law_counted rfl) (a_cons (i_v (i := 3) (by rfl) (by first | exact .inl rfl | exact .inr (.inl rfl) | exact .inr (.inr rfl))) (a_cons (i_lst a_nil) a_nil))) (i_call B.ok (by rfl) (B.call 24 d__law_put rfl) (a_cons (i_v (i := 4) (by rfl) (by first | exact .inl rfl | exact .inr (.inl rfl) | exact .inr (.inr rfl))) (a_cons (i_v (i := 1) (by rfl) (by first | exact .inl rfl | exact .inr (.inl rfl) | exact .inr (.inr rfl))) (a_cons (i_v (i := 5) (by rfl) (by first | exact .inl rfl | exact .inr (.inl rfl) | exact .inr (.inr rfl))) a_nil))))))))) (ss_cons (s_ret i_bl) ss_nil) ss_nil) (ss_cons (s_set (i := 6) B.ok rfl (by first | exact .inl rfl | exact .inr rfl) (i_call B.ok (by rfl) (B.call 26 d__law_uses rfl) (a_cons (i_v (i := 4) (by rfl) (by first | exact .inl rfl | exact .inr (.inl rfl) | exact .inr (.inr rfl))) (a_cons (i_v (i := 1) (by rfl) (by first | exact .inl rfl | exact .inr (.inl rfl) | exact .inr (.inr rfl))) a_nil))) rfl (by first | exact .inl rfl | exact .inr rfl)) (ss_cons (s_if (t_cmp B.ok (i_call B.ok (by rfl) (B.call 14 d_signs_of rfl) (a_cons (i_v (i := 3) (by rfl) (by first | exact .inl rfl | exact .inr (.inl rfl) | exact .inr (.inr rfl))) a_nil)) (i_op (i_call B.ok (by rfl) (B.call 14 d_signs_of rfl) (a_cons (i_v (i := 0) (by rfl) (by first | exact .inl rfl | exact .inr (.inl rfl) | exact .inr (.inr rfl))) a_nil)) (i_op (i_v (i := 6) (by rfl) (by first | exact .inl rfl | exact .inr (.inl rfl) | exact .inr (.inr rfl))) (i_op (i_call B.ok (by rfl) (B.call 14 d_signs_of rfl) (a_cons (i_v (i := 2) (by rfl) (by first | exact .inl rfl | exact .inr (.inl rfl) | exact .inr (.inr rfl))) a_nil)) i_int)))) (ss_cons (s_ret i_bl) ss_nil) ss_nil) (ss_cons (s_setLcI (i := 7) B.ok rfl rfl (sw_true rfl rfl rfl (by decide +kernel)) rfl (it_e (i_call B.ok (by rfl) (B.call 25 d__law_scanned rfl) (a_cons (i_v (i := 0) (by rfl) (by first | exact .inl rfl | exact .inr (.inl rfl) | exact .inr (.inr rfl))) a_nil))) (blkOk_by (N := ["writing", "name", "other", "told", "mine", "its", "uses", "free", "each"]) (sc := (defScope (top 42))) (own := [("each", 8)]) (by decide +kernel)) (fun _ _ _ _ _ => (g_n (i := 8) (cok_blk B.ok) rfl (by first | exact .inl rfl | exact .inr rfl) (by first | exact .inl rfl | exact .inr rfl))) (fun _ _ _ _ _ => (t_cmp (cok_blk B.ok) (i_v (i := 8) (by rfl) (by first | exact .inl rfl | exact .inr (.inl rfl) | exact .inr (.inr rfl))) (i_v (i := 1) (by rfl) (by first | exact .inl rfl | exact .inr (.inl rfl) | exact .inr (.inr rfl))))) (fun _ _ _ _ _ => (i_v (i := 8) (by rfl) (by first | exact .inl rfl | exact .inr (.inl rfl) | exact .inr (.inr rfl))))) (ss_cons (s_if (t_cmp B.ok (i_biB B.ok (b := .sorted) rfl (by rfl) Z.f_sorted boot_sorted (a_cons (i_call B.ok (by rfl) (B.call 15 d_free_names rfl) (a_cons (i_v (i := 3) (by rfl) (by first | exact .inl rfl | exact .inr (.inl rfl) | exact .inr (.inr rfl))) a_nil)) a_nil)) (i_sset B.ok (by rfl) Z.f_sorted boot_sorted (by rfl) Z.f_set boot_set (i_op (i_v (i := 7) (by rfl) (by first | exact .inl rfl | exact .inr (.inl rfl) | exact .inr (.inr rfl))) (i_ite (t_cmp B.ok (i_v (i := 6) (by rfl) (by first | exact .inl rfl | exact .inr (.inl rfl) | exact .inr (.inr rfl))) i_int) (i_call B.ok (by rfl) (B.call 25 d__law_scanned rfl) (a_cons (i_v (i := 2) (by rfl) (by first | exact .inl rfl | exact .inr (.inl rfl) | exact .inr (.inr rfl))) a_nil)) (i_lst a_nil))))) (ss_cons (s_ret i_bl) ss_nil) ss_nil) (ss_cons (s_if (t_cmp B.ok (i_callK0 B.ok (by rfl) (B.callK 17 d_put _ _ _ rfl kw_put_0_other_name_writing) (k_cons (i_call B.ok (by rfl) (B.call 22 d__law_listed rfl) (a_cons (i_v (i := 2) (by rfl) (by first | exact .inl rfl | exact .inr (.inl rfl) | exact .inr (.inr rfl))) a_nil)) (k_cons (i_v (i := 1) (by rfl) (by first | exact .inl rfl | exact .inr (.inl rfl) | exact .inr (.inr rfl))) (k_cons (i_call B.ok (by rfl) (B.call 22 d__law_listed rfl) (a_cons (i_v (i := 0) (by rfl) (by first | exact .inl rfl | exact .inr (.inl rfl) | exact .inr (.inr rfl))) a_nil)) k_nil))) (by rfl)) (i_v (i := 3) (by rfl) (by first | exact .inl rfl | exact .inr (.inl rfl) | exact .inr (.inr rfl)))) (ss_cons (s_ret i_bl) ss_nil) ss_nil) (ss_cons (s_ret (i_or (i_cmp B.ok (i_v (i := 6) (by rfl) (by first | exact .inl rfl | exact .inr (.inl rfl) | exact .inr (.inr rfl))) i_int) (i_one (i_cmp B.ok (i_call B.ok (by rfl) (B.call 16 d_alike rfl) (a_cons (i_v (i := 3) (by rfl) (by first | exact .inl rfl | exact .inr (.inl rfl) | exact .inr (.inr rfl))) (a_cons (i_v (i := 0) (by rfl) (by first | exact .inl rfl | exact .inr (.inl rfl) | exact .inr (.inr rfl))) a_nil))) i_bl)))) ss_nil)))))))))
theorem ok__law_caught (Z : Zs K mg) (B : BodyOk (BodyX P w K mg base ["crate", "names", "deep", "name", "left", "inner", "other", "turn", "bound"] "_law_caught" (defScope (top 43)) f cdv A outer s H) Ds 1000000 k) :
    PSs (BodyX P w K mg base ["crate", "names", "deep", "name", "left", "inner", "other", "turn", "bound"] "_law_caught" (defScope (top 43)) f cdv A outer s H) (defBody (top 43)) (tSs K (run (Fns Ds) 1000000 k) 1000000 b__law_caught) :=
  (ss_cons (s_par3 (i := 3) (j := 4) (l := 5) B.ok rfl rfl rfl (by decide) (by decide) (by decide) rfl rfl rfl (a_cons (i_ix (i_v (i := 1) (by rfl) (by first | exact .inl rfl | exact .inr (.inl rfl) | exact .inr (.inr rfl))) i_int) (a_cons (i_biT B.ok (b := .list) rfl (by rfl) Z.f_list boot_list (a_cons (i_sl (i_v (i := 1) (by rfl) (by first | exact .inl rfl | exact .inr (.inl rfl) | exact .inr (.inr rfl))) (o_some i_int) o_none) a_nil)) (a_cons (i_ix (i_v (i := 1) (by rfl) (by first | exact .inl rfl | exact .inr (.inl rfl) | exact .inr (.inr rfl))) i_int) a_nil))) rfl) (ss_cons (s_set (i := 6) B.ok rfl (by first | exact .inl rfl | exact .inr rfl) (i_ix (i_v (i := 4) (by rfl) (by first | exact .inl rfl | exact .inr (.inl rfl) | exact .inr (.inr rfl))) i_int) rfl (by first | exact .inl rfl | exact .inr rfl)) (ss_cons (s_for B.ok PassesOwn.never (it_rng1 (by rfl) Z.f_range (i_v (i := 2) (by rfl) (by first | exact .inl rfl | exact .inr (.inl rfl) | exact .inr (.inr rfl)))) (g_n (i := 7) B.ok rfl (by first | exact .inl rfl | exact .inr rfl) (by first | exact .inl rfl | exact .inr rfl)) (ss_cons (s_set (i := 8) B.ok rfl (by first | exact .inl rfl | exact .inr rfl) (i_call B.ok (by rfl) (B.call 20 d__law_any rfl) (a_cons (i_v (i := 0) (by rfl) (by first | exact .inl rfl | exact .inr (.inl rfl) | exact .inr (.inr rfl))) (a_cons (i_v (i := 4) (by rfl) (by first | exact .inl rfl | exact .inr (.inl rfl) | exact .inr (.inr rfl))) a_nil))) rfl (by first | exact .inl rfl | exact .inr rfl)) (ss_cons (s_set (i := 5) B.ok rfl (by first | exact .inl rfl | exact .inr rfl) (i_tup (a_cons i_str (a_cons (i_v (i := 8) (by rfl) (by first | exact .inl rfl | exact .inr (.inl rfl) | exact .inr (.inr rfl))) (a_cons (i_call B.ok (by rfl) (B.call 20 d__law_any rfl) (a_cons (i_v (i := 0) (by rfl) (by first | exact .inl rfl | exact .inr (.inl rfl) | exact .inr (.inr rfl))) (a_cons (i_lst (a_cons (i_tup (a_cons i_str (a_cons (i_v (i := 5) (by rfl) (by first | exact .inl rfl | exact .inr (.inl rfl) | exact .inr (.inr rfl))) (a_cons (i_v (i := 8) (by rfl) (by first | exact .inl rfl | exact .inr (.inl rfl) | exact .inr (.inr rfl))) a_nil)))) (a_cons (i_tup (a_cons i_str (a_cons (i_v (i := 8) (by rfl) (by first | exact .inl rfl | exact .inr (.inl rfl) | exact .inr (.inr rfl))) (a_cons (i_v (i := 5) (by rfl) (by first | exact .inl rfl | exact .inr (.inl rfl) | exact .inr (.inr rfl))) a_nil)))) (a_cons (i_tup (a_cons i_str (a_cons (i_v (i := 5) (by rfl) (by first | exact .inl rfl | exact .inr (.inl rfl) | exact .inr (.inr rfl))) (a_cons (i_v (i := 5) (by rfl) (by first | exact .inl rfl | exact .inr (.inl rfl) | exact .inr (.inr rfl))) a_nil)))) (a_cons (i_v (i := 5) (by rfl) (by first | exact .inl rfl | exact .inr (.inl rfl) | exact .inr (.inr rfl))) a_nil))))) a_nil))) a_nil)))) rfl (by first | exact .inl rfl | exact .inr rfl)) (ss_cons (s_set (i := 6) B.ok rfl (by first | exact .inl rfl | exact .inr rfl) (i_call B.ok (by rfl) (B.call 20 d__law_any rfl) (a_cons (i_v (i := 0) (by rfl) (by first | exact .inl rfl | exact .inr (.inl rfl) | exact .inr (.inr rfl))) (a_cons (i_lst (a_cons (i_tup (a_cons i_str (a_cons (i_v (i := 6) (by rfl) (by first | exact .inl rfl | exact .inr (.inl rfl) | exact .inr (.inr rfl))) (a_cons (i_v (i := 8) (by rfl) (by first | exact .inl rfl | exact .inr (.inl rfl) | exact .inr (.inr rfl))) a_nil)))) (a_cons (i_tup (a_cons i_str (a_cons i_str (a_cons (i_tup (a_cons i_str (a_cons (i_v (i := 8) (by rfl) (by first | exact .inl rfl | exact .inr (.inl rfl) | exact .inr (.inr rfl))) (a_cons (i_v (i := 6) (by rfl) (by first | exact .inl rfl | exact .inr (.inl rfl) | exact .inr (.inr rfl))) a_nil)))) a_nil)))) (a_cons (i_tup (a_cons i_str (a_cons (i_v (i := 8) (by rfl) (by first | exact .inl rfl | exact .inr (.inl rfl) | exact .inr (.inr rfl))) (a_cons (i_v (i := 6) (by rfl) (by first | exact .inl rfl | exact .inr (.inl rfl) | exact .inr (.inr rfl))) a_nil)))) a_nil)))) a_nil))) rfl (by first | exact .inl rfl | exact .inr rfl)) ss_nil)))) (ss_cons (s_ret (i_tup (a_cons (i_v (i := 5) (by rfl) (by first | exact .inl rfl | exact .inr (.inl rfl) | exact .inr (.inr rfl))) (a_cons (i_v (i := 3) (by rfl) (by first | exact .inl rfl | exact .inr (.inl rfl) | exact .inr (.inr rfl))) (a_cons (i_v (i := 6) (by rfl) (by first | exact .inl rfl | exact .inr (.inl rfl) | exact .inr (.inr rfl))) a_nil))))) ss_nil))))
theorem ok__law_told_anew (Z : Zs K mg) (B : BodyOk (BodyX P w K mg base ["writing", "around", "at"] "_law_told_anew" (defScope (top 44)) f cdv A outer s H) Ds 1000000 k) :
    PSs (BodyX P w K mg base ["writing", "around", "at"] "_law_told_anew" (defScope (top 44)) f cdv A outer s H) (defBody (top 44)) (tSs K (run (Fns Ds) 1000000 k) 1000000 b__law_told_anew) :=
  (ss_cons (s_if (t_e (i_is1 (by rfl) Z.f_isinstance (i_v (i := 0) (by rfl) (by first | exact .inl rfl | exact .inr (.inl rfl) | exact .inr (.inr rfl))) (ty_ok (by rfl) Z.f_str boot_str))) (ss_cons (s_ret (i_ite (t_cmp B.ok (i_v (i := 0) (by rfl) (by first | exact .inl rfl | exact .inr (.inl rfl) | exact .inr (.inr rfl))) (i_v (i := 1) (by rfl) (by first | exact .inl rfl | exact .inr (.inl rfl) | exact .inr (.inr rfl)))) (i_op i_str (i_biT B.ok (b := .str) rfl (by rfl) Z.f_str boot_str (a_cons (i_op (i_op (i_op (i_v (i := 2) (by rfl) (by first | exact .inl rfl | exact .inr (.inl rfl) | exact .inr (.inr rfl))) (i_biB B.ok (b := .len) rfl (by rfl) Z.f_len boot_len (a_cons (i_v (i := 1) (by rfl) (by first | exact .inl rfl | exact .inr (.inl rfl) | exact .inr (.inr rfl))) a_nil))) i_int) (i_me mf_index (i_v (i := 1) (by rfl) (by first | exact .inl rfl | exact .inr (.inl rfl) | exact .inr (.inr rfl))) (a_cons (i_v (i := 0) (by rfl) (by first | exact .inl rfl | exact .inr (.inl rfl) | exact .inr (.inr rfl))) a_nil))) a_nil))) (i_v (i := 0) (by rfl) (by first | exact .inl rfl | exact .inr (.inl rfl) | exact .inr (.inr rfl))))) ss_nil) ss_nil) (ss_cons (s_if (t_cmp B.ok (i_ix (i_v (i := 0) (by rfl) (by first | exact .inl rfl | exact .inr (.inl rfl) | exact .inr (.inr rfl))) i_int) i_str) (ss_cons (s_ret (i_tup (a_cons i_str (a_cons (i_op i_str (i_biT B.ok (b := .str) rfl (by rfl) Z.f_str boot_str (a_cons (i_op (i_v (i := 2) (by rfl) (by first | exact .inl rfl | exact .inr (.inl rfl) | exact .inr (.inr rfl))) (i_biB B.ok (b := .len) rfl (by rfl) Z.f_len boot_len (a_cons (i_v (i := 1) (by rfl) (by first | exact .inl rfl | exact .inr (.inl rfl) | exact .inr (.inr rfl))) a_nil))) a_nil))) (a_cons (i_call B.ok (by rfl) (B.call 30 d__law_told_anew rfl) (a_cons (i_ix (i_v (i := 0) (by rfl) (by first | exact .inl rfl | exact .inr (.inl rfl) | exact .inr (.inr rfl))) i_int) (a_cons (i_op (i_lst (a_cons (i_ix (i_v (i := 0) (by rfl) (by first | exact .inl rfl | exact .inr (.inl rfl) | exact .inr (.inr rfl))) i_int) a_nil)) (i_v (i := 1) (by rfl) (by first | exact .inl rfl | exact .inr (.inl rfl) | exact .inr (.inr rfl)))) (a_cons (i_v (i := 2) (by rfl) (by first | exact .inl rfl | exact .inr (.inl rfl) | exact .inr (.inr rfl))) a_nil)))) a_nil))))) ss_nil) ss_nil) (ss_cons (s_ret (i_tup (a_cons i_str (a_cons (i_call B.ok (by rfl) (B.call 30 d__law_told_anew rfl) (a_cons (i_ix (i_v (i := 0) (by rfl) (by first | exact .inl rfl | exact .inr (.inl rfl) | exact .inr (.inr rfl))) i_int) (a_cons (i_v (i := 1) (by rfl) (by first | exact .inl rfl | exact .inr (.inl rfl) | exact .inr (.inr rfl))) (a_cons (i_v (i := 2) (by rfl) (by first | exact .inl rfl | exact .inr (.inl rfl) | exact .inr (.inr rfl))) a_nil)))) (a_cons (i_call B.ok (by rfl) (B.call 30 d__law_told_anew rfl) (a_cons (i_ix (i_v (i := 0) (by rfl) (by first | exact .inl rfl | exact .inr (.inl rfl) | exact .inr (.inr rfl))) i_int) (a_cons (i_v (i := 1) (by rfl) (by first | exact .inl rfl | exact .inr (.inl rfl) | exact .inr (.inr rfl))) (a_cons (i_v (i := 2) (by rfl) (by first | exact .inl rfl | exact .inr (.inl rfl) | exact .inr (.inr rfl))) a_nil)))) a_nil))))) ss_nil)))
theorem ok_law (Z : Zs K mg) (B : BodyOk (BodyX P w K mg base ["script", "crate", "lap", "letter", "counted", "lettered", "number", "names", "writing", "other", "name", "inner", "its", "anew", "each"] "law" (defScope (top 45)) f cdv A outer s H) Ds 1000000 k) :
    PSs (BodyX P w K mg base ["script", "crate", "lap", "letter", "counted", "lettered", "number", "names", "writing", "other", "name", "inner", "its", "anew", "each"] "law" (defScope (top 45)) f cdv A outer s H) (defBody (top 45)) (tSs K (run (Fns Ds) 1000000 k) 1000000 b_law) :=
  (ss_cons (s_set (i := 1) B.ok rfl (by first | exact .inl rfl | exact .inr rfl) (i_call B.ok (by rfl) (B.call 18 d__law_crate rfl) (a_cons (i_v (i := 0) (by rfl) (by first | exact .inl rfl | exact .inr (.inl rfl) | exact .inr (.inr rfl))) a_nil)) rfl (by first | exact .inl rfl | exact .inr rfl)) (ss_cons (s_for B.ok PassesOwn.never (it_rng1 (by rfl) Z.f_range i_int) (g_n (i := 2) B.ok rfl (by first | exact .inl rfl | exact .inr rfl) (by first | exact .inl rfl | exact .inr rfl)) (ss_cons (s_set (i := 7) B.ok rfl (by first | exact .inl rfl | exact .inr rfl) (i_call B.ok (by rfl) (B.call 20 d__law_any rfl) (a_cons (i_v (i := 1) (by rfl) (by first | exact .inl rfl | exact .inr (.inl rfl) | exact .inr (.inr rfl))) (a_cons (i_lst (a_cons (i_lst (a_cons i_str (a_cons i_str (a_cons i_str a_nil)))) (a_cons (i_lst (a_cons i_str (a_cons i_str (a_cons i_str (a_cons i_str a_nil))))) (a_cons (i_lst (a_cons i_str (a_cons i_str (a_cons i_str a_nil)))) (a_cons (i_lst (a_cons i_str (a_cons i_str (a_cons i_str a_nil)))) a_nil))))) a_nil))) rfl (by first | exact .inl rfl | exact .inr rfl)) (ss_cons (s_par2 (i := 8) (j := 9) B.ok rfl rfl (by decide) rfl rfl (a_cons (i_call B.ok (by rfl) (B.call 21 d__law_drawn rfl) (a_cons (i_v (i := 1) (by rfl) (by first | exact .inl rfl | exact .inr (.inl rfl) | exact .inr (.inr rfl))) (a_cons (i_op i_int (i_call B.ok (by rfl) (B.call 19 d__law_haul rfl) (a_cons (i_v (i := 1) (by rfl) (by first | exact .inl rfl | exact .inr (.inl rfl) | exact .inr (.inr rfl))) (a_cons i_int a_nil)))) (a_cons (i_v (i := 7) (by rfl) (by first | exact .inl rfl | exact .inr (.inl rfl) | exact .inr (.inr rfl))) a_nil)))) (a_cons (i_call B.ok (by rfl) (B.call 21 d__law_drawn rfl) (a_cons (i_v (i := 1) (by rfl) (by first | exact .inl rfl | exact .inr (.inl rfl) | exact .inr (.inr rfl))) (a_cons (i_op i_int (i_call B.ok (by rfl) (B.call 19 d__law_haul rfl) (a_cons (i_v (i := 1) (by rfl) (by first | exact .inl rfl | exact .inr (.inl rfl) | exact .inr (.inr rfl))) (a_cons i_int a_nil)))) (a_cons (i_v (i := 7) (by rfl) (by first | exact .inl rfl | exact .inr (.inl rfl) | exact .inr (.inr rfl))) a_nil)))) a_nil)) rfl) (ss_cons (s_for B.ok PassesOwn.never (it_e (i_v (i := 7) (by rfl) (by first | exact .inl rfl | exact .inr (.inl rfl) | exact .inr (.inr rfl)))) (g_n (i := 10) B.ok rfl (by first | exact .inl rfl | exact .inr rfl) (by first | exact .inl rfl | exact .inr rfl)) (ss_cons (s_if (t_w (w_or (t_not (t_e (i_call B.ok (by rfl) (B.call 28 d__law_put_right rfl) (a_cons (i_v (i := 8) (by rfl) (by first | exact .inl rfl | exact .inr (.inl rfl) | exact .inr (.inr rfl))) (a_cons (i_v (i := 10) (by rfl) (by first | exact .inl rfl | exact .inr (.inl rfl) | exact .inr (.inr rfl))) (a_cons (i_v (i := 9) (by rfl) (by first | exact .inl rfl | exact .inr (.inl rfl) | exact .inr (.inr rfl))) a_nil)))))) (w_or1 (t_cmp B.ok (i_call B.ok (by rfl) (B.call 16 d_alike rfl) (a_cons (i_call B.ok (by rfl) (B.call 17 d_put rfl) (a_cons (i_v (i := 8) (by rfl) (by first | exact .inl rfl | exact .inr (.inl rfl) | exact .inr (.inr rfl))) (a_cons (i_v (i := 10) (by rfl) (by first | exact .inl rfl | exact .inr (.inl rfl) | exact .inr (.inr rfl))) (a_cons (i_v (i := 10) (by rfl) (by first | exact .inl rfl | exact .inr (.inl rfl) | exact .inr (.inr rfl))) a_nil)))) (a_cons (i_v (i := 8) (by rfl) (by first | exact .inl rfl | exact .inr (.inl rfl) | exact .inr (.inr rfl))) a_nil))) i_bl)))) (ss_cons (s_ret i_bl) ss_nil) ss_nil) ss_nil)) (ss_cons (s_asg (i_call B.ok (by rfl) (B.call 29 d__law_caught rfl) (a_cons (i_v (i := 1) (by rfl) (by first | exact .inl rfl | exact .inr (.inl rfl) | exact .inr (.inr rfl))) (a_cons (i_v (i := 7) (by rfl) (by first | exact .inl rfl | exact .inr (.inl rfl) | exact .inr (.inr rfl))) (a_cons (i_op i_int (i_call B.ok (by rfl) (B.call 19 d__law_haul rfl) (a_cons (i_v (i := 1) (by rfl) (by first | exact .inl rfl | exact .inr (.inl rfl) | exact .inr (.inr rfl))) (a_cons i_int a_nil)))) a_nil)))) (g_t B.ok (.cons (i := 11) rfl (by first | exact .inl rfl | exact .inr rfl) (by first | exact .inl rfl | exact .inr rfl) (.cons (i := 10) rfl (by first | exact .inl rfl | exact .inr rfl) (by first | exact .inl rfl | exact .inr rfl) (.cons (i := 12) rfl (by first | exact .inl rfl | exact .inr rfl) (by first | exact .inl rfl | exact .inr rfl) .nil))))) (ss_cons (s_if (t_w (w_or (t_not (t_e (i_call B.ok (by rfl) (B.call 28 d__law_put_right rfl) (a_cons (i_v (i := 11) (by rfl) (by first | exact .inl rfl | exact .inr (.inl rfl) | exact .inr (.inr rfl))) (a_cons (i_v (i := 10) (by rfl) (by first | exact .inl rfl | exact .inr (.inl rfl) | exact .inr (.inr rfl))) (a_cons (i_v (i := 12) (by rfl) (by first | exact .inl rfl | exact .inr (.inl rfl) | exact .inr (.inr rfl))) a_nil)))))) (w_or (t_not (t_e (i_call B.ok (by rfl) (B.call 28 d__law_put_right rfl) (a_cons (i_v (i := 11) (by rfl) (by first | exact .inl rfl | exact .inr (.inl rfl) | exact .inr (.inr rfl))) (a_cons (i_ix (i_v (i := 7) (by rfl) (by first | exact .inl rfl | exact .inr (.inl rfl) | exact .inr (.inr rfl))) (i_neg i_int)) (a_cons (i_v (i := 12) (by rfl) (by first | exact .inl rfl | exact .inr (.inl rfl) | exact .inr (.inr rfl))) a_nil)))))) (w_or1 (t_not (t_e (i_call B.ok (by rfl) (B.call 28 d__law_put_right rfl) (a_cons (i_tup (a_cons i_str (a_cons (i_v (i := 11) (by rfl) (by first | exact .inl rfl | exact .inr (.inl rfl) | exact .inr (.inr rfl))) (a_cons (i_v (i := 8) (by rfl) (by first | exact .inl rfl | exact .inr (.inl rfl) | exact .inr (.inr rfl))) a_nil)))) (a_cons (i_v (i := 10) (by rfl) (by first | exact .inl rfl | exact .inr (.inl rfl) | exact .inr (.inr rfl))) (a_cons (i_v (i := 12) (by rfl) (by first | exact .inl rfl | exact .inr (.inl rfl) | exact .inr (.inr rfl))) a_nil)))))))))) (ss_cons (s_ret i_bl) ss_nil) ss_nil) (ss_cons (s_set (i := 13) B.ok rfl (by first | exact .inl rfl | exact .inr rfl) (i_call B.ok (by rfl) (B.call 17 d_put rfl) (a_cons (i_call B.ok (by rfl) (B.call 30 d__law_told_anew rfl) (a_cons (i_v (i := 8) (by rfl) (by first | exact .inl rfl | exact .inr (.inl rfl) | exact .inr (.inr rfl))) (a_cons (i_lst a_nil) (a_cons i_int a_nil)))) (a_cons (i_ix (i_v (i := 7) (by rfl) (by first | exact .inl rfl | exact .inr (.inl rfl) | exact .inr (.inr rfl))) i_int) (a_cons (i_call B.ok (by rfl) (B.call 30 d__law_told_anew rfl) (a_cons (i_v (i := 9) (by rfl) (by first | exact .inl rfl | exact .inr (.inl rfl) | exact .inr (.inr rfl))) (a_cons (i_lst a_nil) (a_cons i_int a_nil)))) a_nil)))) rfl (by first | exact .inl rfl | exact .inr rfl)) (ss_cons (s_if (t_cmp B.ok (i_call B.ok (by rfl) (B.call 16 d_alike rfl) (a_cons (i_v (i := 13) (by rfl) (by first | exact .inl rfl | exact .inr (.inl rfl) | exact .inr (.inr rfl))) (a_cons (i_call B.ok (by rfl) (B.call 17 d_put rfl) (a_cons (i_v (i := 8) (by rfl) (by first | exact .inl rfl | exact .inr (.inl rfl) | exact .inr (.inr rfl))) (a_cons (i_ix (i_v (i := 7) (by rfl) (by first | exact .inl rfl | exact .inr (.inl rfl) | exact .inr (.inr rfl))) i_int) (a_cons (i_v (i := 9) (by rfl) (by first | exact .inl rfl | exact .inr (.inl rfl) | exact .inr (.inr rfl))) a_nil)))) a_nil))) i_bl) (ss_cons (s_ret i_bl) ss_nil) ss_nil) ss_nil)))))))) (ss_cons (s_for B.ok PassesOwn.never (it_e (i_biT B.ok (b := .list) rfl (by rfl) Z.f_list boot_list (a_cons i_str a_nil))) (g_n (i := 3) B.ok rfl (by first | exact .inl rfl | exact .inr rfl) (by first | exact .inl rfl | exact .inr rfl)) (ss_cons (s_for B.ok PassesOwn.never (it_e (i_compI B.ok rfl (it_e (i_tup (a_cons (i_v (i := 3) (by rfl) (by first | exact .inl rfl | exact .inr (.inl rfl) | exact .inr (.inr rfl))) (a_cons (i_op (i_v (i := 3) (by rfl) (by first | exact .inl rfl | exact .inr (.inl rfl) | exact .inr (.inr rfl))) i_str) (a_cons (i_op (i_v (i := 3) (by rfl) (by first | exact .inl rfl | exact .inr (.inl rfl) | exact .inr (.inr rfl))) i_str) (a_cons (i_op (i_v (i := 3) (by rfl) (by first | exact .inl rfl | exact .inr (.inl rfl) | exact .inr (.inr rfl))) i_str) a_nil)))))) (blkOk_by (N := ["script", "crate", "lap", "letter", "counted", "lettered", "number", "names", "writing", "other", "name", "inner", "its", "anew", "each"]) (sc := (defScope (top 45))) (own := [("other", 9)]) (by decide +kernel)) (fun _ _ _ _ _ => (g_n (i := 9) (cok_blk B.ok) rfl (by first | exact .inl rfl | exact .inr rfl) (by first | exact .inl rfl | exact .inr rfl))) (fun _ _ _ _ _ => (t_cmp (cok_blk B.ok) (i_v (i := 9) (by rfl) (by first | exact .inl rfl | exact .inr (.inl rfl) | exact .inr (.inr rfl))) (i_tup (a_cons i_str (a_cons i_str a_nil))))) (fun _ _ _ _ _ => (i_v (i := 9) (by rfl) (by first | exact .inl rfl | exact .inr (.inl rfl) | exact .inr (.inr rfl)))))) (g_n (i := 14) B.ok rfl (by first | exact .inl rfl | exact .inr rfl) (by first | exact .inl rfl | exact .inr rfl)) (ss_cons (s_if (t_cmp B.ok (i_call B.ok (by rfl) (B.call 15 d_free_names rfl) (a_cons (i_call B.ok (by rfl) (B.call 17 d_put rfl) (a_cons (i_tup (a_cons i_str (a_cons i_str (a_cons (i_tup (a_cons i_str (a_cons i_str (a_cons (i_v (i := 14) (by rfl) (by first | exact .inl rfl | exact .inr (.inl rfl) | exact .inr (.inr rfl))) a_nil)))) a_nil)))) (a_cons i_str (a_cons i_str a_nil)))) a_nil)) (i_tup (a_cons i_str (a_cons (i_v (i := 14) (by rfl) (by first | exact .inl rfl | exact .inr (.inl rfl) | exact .inr (.inr rfl))) a_nil)))) (ss_cons (s_ret i_bl) ss_nil) ss_nil) (ss_cons (s_if (t_cmp B.ok (i_call B.ok (by rfl) (B.call 15 d_free_names rfl) (a_cons (i_call B.ok (by rfl) (B.call 17 d_put rfl) (a_cons (i_tup (a_cons i_str (a_cons i_str (a_cons (i_tup (a_cons i_str (a_cons i_str (a_cons i_str a_nil)))) a_nil)))) (a_cons i_str (a_cons (i_tup (a_cons i_str (a_cons i_str (a_cons (i_v (i := 14) (by rfl) (by first | exact .inl rfl | exact .inr (.inl rfl) | exact .inr (.inr rfl))) a_nil)))) a_nil)))) a_nil)) (i_tup (a_cons i_str (a_cons (i_v (i := 14) (by rfl) (by first | exact .inl rfl | exact .inr (.inl rfl) | exact .inr (.inr rfl))) a_nil)))) (ss_cons (s_ret i_bl) ss_nil) ss_nil) ss_nil))) ss_nil)) (ss_cons (s_asg (i_tup (a_cons i_str (a_cons i_str a_nil))) (g_t B.ok (.cons (i := 4) rfl (by first | exact .inl rfl | exact .inr rfl) (by first | exact .inl rfl | exact .inr rfl) (.cons (i := 5) rfl (by first | exact .inl rfl | exact .inr rfl) (by first | exact .inl rfl | exact .inr rfl) .nil)))) (ss_cons (s_for B.ok PassesOwn.never (it_rng1 (by rfl) Z.f_range i_int) (g_n (i := 6) B.ok rfl (by first | exact .inl rfl | exact .inr rfl) (by first | exact .inl rfl | exact .inr rfl)) (ss_cons (s_set (i := 4) B.ok rfl (by first | exact .inl rfl | exact .inr rfl) (i_tup (a_cons i_str (a_cons (i_v (i := 4) (by rfl) (by first | exact .inl rfl | exact .inr (.inl rfl) | exact .inr (.inr rfl))) (a_cons (i_op i_str (i_biT B.ok (b := .str) rfl (by rfl) Z.f_str boot_str (a_cons (i_v (i := 6) (by rfl) (by first | exact .inl rfl | exact .inr (.inl rfl) | exact .inr (.inr rfl))) a_nil))) a_nil)))) rfl (by first | exact .inl rfl | exact .inr rfl)) (ss_cons (s_if (t_cmp B.ok (i_call B.ok (by rfl) (B.call 15 d_free_names rfl) (a_cons (i_call B.ok (by rfl) (B.call 17 d_put rfl) (a_cons (i_tup (a_cons i_str (a_cons i_str (a_cons (i_tup (a_cons i_str (a_cons i_str (a_cons (i_op i_str (i_biT B.ok (b := .str) rfl (by rfl) Z.f_str boot_str (a_cons (i_v (i := 6) (by rfl) (by first | exact .inl rfl | exact .inr (.inl rfl) | exact .inr (.inr rfl))) a_nil))) a_nil)))) a_nil)))) (a_cons i_str (a_cons i_str a_nil)))) a_nil)) (i_tup (a_cons i_str (a_cons (i_op i_str (i_biT B.ok (b := .str) rfl (by rfl) Z.f_str boot_str (a_cons (i_v (i := 6) (by rfl) (by first | exact .inl rfl | exact .inr (.inl rfl) | exact .inr (.inr rfl))) a_nil))) a_nil)))) (ss_cons (s_ret i_bl) ss_nil) ss_nil) ss_nil))) (ss_cons (s_for B.ok PassesOwn.never (it_e (i_biT B.ok (b := .list) rfl (by rfl) Z.f_list boot_list (a_cons i_str a_nil))) (g_n (i := 3) B.ok rfl (by first | exact .inl rfl | exact .inr rfl) (by first | exact .inl rfl | exact .inr rfl)) (ss_cons (s_set (i := 5) B.ok rfl (by first | exact .inl rfl | exact .inr rfl) (i_tup (a_cons i_str (a_cons (i_v (i := 5) (by rfl) (by first | exact .inl rfl | exact .inr (.inl rfl) | exact .inr (.inr rfl))) (a_cons (i_v (i := 3) (by rfl) (by first | exact .inl rfl | exact .inr (.inl rfl) | exact .inr (.inr rfl))) a_nil)))) rfl (by first | exact .inl rfl | exact .inr rfl)) ss_nil)) (ss_cons (s_if (t_w (w_or (t_not (t_e (i_call B.ok (by rfl) (B.call 28 d__law_put_right rfl) (a_cons (i_tup (a_cons i_str (a_cons i_str (a_cons (i_v (i := 4) (by rfl) (by first | exact .inl rfl | exact .inr (.inl rfl) | exact .inr (.inr rfl))) a_nil)))) (a_cons i_str (a_cons i_str a_nil)))))) (w_or1 (t_not (t_e (i_call B.ok (by rfl) (B.call 28 d__law_put_right rfl) (a_cons (i_tup (a_cons i_str (a_cons i_str (a_cons (i_v (i := 5) (by rfl) (by first | exact .inl rfl | exact .inr (.inl rfl) | exact .inr (.inr rfl))) a_nil)))) (a_cons i_str (a_cons i_str a_nil))))))))) (ss_cons (s_ret i_bl) ss_nil) ss_nil) (ss_cons (s_ret (i_and (i_cmp B.ok (i_call B.ok (by rfl) (B.call 16 d_alike rfl) (a_cons (i_call B.ok (by rfl) (B.call 17 d_put rfl) (a_cons (i_tup (a_cons i_str (a_cons i_str (a_cons i_str a_nil)))) (a_cons i_str (a_cons i_str a_nil)))) (a_cons (i_tup (a_cons i_str (a_cons i_str (a_cons i_str a_nil)))) a_nil))) i_bl) (i_one (i_cmp B.ok (i_call B.ok (by rfl) (B.call 16 d_alike rfl) (a_cons (i_call B.ok (by rfl) (B.call 17 d_put rfl) (a_cons (i_tup (a_cons i_str (a_cons i_str (a_cons i_str a_nil)))) (a_cons i_str (a_cons i_str a_nil)))) (a_cons (i_tup (a_cons i_str (a_cons i_str (a_cons i_str a_nil)))) a_nil))) i_bl)))) ss_nil))))))))
end
theorem bodies {P : Program} {w : World} {K : PySem.W.Frag} {mg : Str → Option Value} {base : Heap} (Z : Zs K mg) : ∀ (i : Nat) (d : DefI), Ds[i]? = some d → ∀ k f cdv A outer s H, BodyOk (BodyX P w K mg base d.N d.name d.scope f cdv A outer s H) Ds 1000000 k →
    PSs (BodyX P w K mg base d.N d.name d.scope f cdv A outer s H) d.body (tSs K (run (Fns Ds) 1000000 k) 1000000 d.fn.body)
  | 0, _, rfl => fun _ _ _ _ _ _ _ B => ok_is_name Z B
  | 1, _, rfl => fun _ _ _ _ _ _ _ B => ok_need_name Z B
  | 2, _, rfl => fun _ _ _ _ _ _ _ B => ok_as_tuples Z B
  | 3, _, rfl => fun _ _ _ _ _ _ _ B => ok_is_writing Z B
  | 4, _, rfl => fun _ _ _ _ _ _ _ B => ok_need_writing Z B
  | 5, _, rfl => fun _ _ _ _ _ _ _ B => ok_signs_in Z B
  | 6, _, rfl => fun _ _ _ _ _ _ _ B => ok_gather_free Z B
  | 7, _, rfl => fun _ _ _ _ _ _ _ B => ok_free_in Z B
  | 8, _, rfl => fun _ _ _ _ _ _ _ B => ok_names_in Z B
  | 9, _, rfl => fun _ _ _ _ _ _ _ B => ok_fresh_name Z B
  | 10, _, rfl => fun _ _ _ _ _ _ _ B => ok_put_in Z B
  | 11, _, rfl => fun _ _ _ _ _ _ _ B => ok_put_for Z B
  | 12, _, rfl => fun _ _ _ _ _ _ _ B => ok_told_by Z B
  | 13, _, rfl => fun _ _ _ _ _ _ _ B => ok_are_alike Z B
  | 14, _, rfl => fun _ _ _ _ _ _ _ B => ok_signs_of Z B
  | 15, _, rfl => fun _ _ _ _ _ _ _ B => ok_free_names Z B
  | 16, _, rfl => fun _ _ _ _ _ _ _ B => ok_alike Z B
  | 17, _, rfl => fun _ _ _ _ _ _ _ B => ok_put Z B
  | 18, _, rfl => fun _ _ _ _ _ _ _ B => ok__law_crate Z B
  | 19, _, rfl => fun _ _ _ _ _ _ _ B => ok__law_haul Z B
  | 20, _, rfl => fun _ _ _ _ _ _ _ B => ok__law_any Z B
  | 21, _, rfl => fun _ _ _ _ _ _ _ B => ok__law_drawn Z B
  | 22, _, rfl => fun _ _ _ _ _ _ _ B => ok__law_listed Z B
  | 23, _, rfl => fun _ _ _ _ _ _ _ B => ok__law_counted Z B
  | 24, _, rfl => fun _ _ _ _ _ _ _ B => ok__law_put Z B
  | 25, _, rfl => fun _ _ _ _ _ _ _ B => ok__law_scanned Z B
  | 26, _, rfl => fun _ _ _ _ _ _ _ B => ok__law_uses Z B
  | 27, _, rfl => fun _ _ _ _ _ _ _ B => ok__law_are_tuples Z B
  | 28, _, rfl => fun _ _ _ _ _ _ _ B => ok__law_put_right Z B
  | 29, _, rfl => fun _ _ _ _ _ _ _ B => ok__law_caught Z B
  | 30, _, rfl => fun _ _ _ _ _ _ _ B => ok__law_told_anew Z B
  | 31, _, rfl => fun _ _ _ _ _ _ _ B => ok_law Z B
  | n + 32, _, h => by simp [Ds] at h
theorem scopes : ∀ (i : Nat) (d : DefI), Ds[i]? = some d → FnScope d.N d.ps d.scope ∧ d.fn.ar = d.ps.length ∧ d.fn.sl = d.N.length
  | 0, _, rfl => ⟨⟨rfl, rfl, rfl, by decide +kernel, rfl, by decide +kernel, by decide +kernel⟩, rfl, rfl⟩
  | 1, _, rfl => ⟨⟨rfl, rfl, rfl, by decide +kernel, rfl, by decide +kernel, by decide +kernel⟩, rfl, rfl⟩
  | 2, _, rfl => ⟨⟨rfl, rfl, rfl, by decide +kernel, rfl, by decide +kernel, by decide +kernel⟩, rfl, rfl⟩
  | 3, _, rfl => ⟨⟨rfl, rfl, rfl, by decide +kernel, rfl, by decide +kernel, by decide +kernel⟩, rfl, rfl⟩
  | 4, _, rfl => ⟨⟨rfl, rfl, rfl, by decide +kernel, rfl, by decide +kernel, by decide +kernel⟩, rfl, rfl⟩
  | 5, _, rfl => ⟨⟨rfl, rfl, rfl, by decide +kernel, rfl, by decide +kernel, by decide +kernel⟩, rfl, rfl⟩
  | 6, _, rfl => ⟨⟨rfl, rfl, rfl, by decide +kernel, rfl, by decide +kernel, by decide +kernel⟩, rfl, rfl⟩
  | 7, _, rfl => ⟨⟨rfl, rfl, rfl, by decide +kernel, rfl, by decide +kernel, by decide +kernel⟩, rfl, rfl⟩
  | 8, _, rfl => ⟨⟨rfl, rfl, rfl, by decide +kernel, rfl, by decide +kernel, by decide +kernel⟩, rfl, rfl⟩
  | 9, _, rfl => ⟨⟨rfl, rfl, rfl, by decide +kernel, rfl, by decide +kernel, by decide +kernel⟩, rfl, rfl⟩
  | 10, _, rfl => ⟨⟨rfl, rfl, rfl, by decide +kernel, rfl, by decide +kernel, by decide +kernel⟩, rfl, rfl⟩
  | 11, _, rfl => ⟨⟨rfl, rfl, rfl, by decide +kernel, rfl, by decide +kernel, by decide +kernel⟩, rfl, rfl⟩
  | 12, _, rfl => ⟨⟨rfl, rfl, rfl, by decide +kernel, rfl, by decide +kernel, by decide +kernel⟩, rfl, rfl⟩
  | 13, _, rfl => ⟨⟨rfl, rfl, rfl, by decide +kernel, rfl, by decide +kernel, by decide +kernel⟩, rfl, rfl⟩
  | 14, _, rfl => ⟨⟨rfl, rfl, rfl, by decide +kernel, rfl, by decide +kernel, by decide +kernel⟩, rfl, rfl⟩
  | 15, _, rfl => ⟨⟨rfl, rfl, rfl, by decide +kernel, rfl, by decide +kernel, by decide +kernel⟩, rfl, rfl⟩
  | 16, _, rfl => ⟨⟨rfl, rfl, rfl, by decide +kernel, rfl, by decide +kernel, by decide +kernel⟩, rfl, rfl⟩
  | 17, _, rfl => ⟨⟨rfl, rfl, rfl, by decide +kernel, rfl, by decide +kernel, by decide +kernel⟩, rfl, rfl⟩
  | 18, _, rfl => ⟨⟨rfl, rfl, rfl, by decide +kernel, rfl, by decide +kernel, by decide +kernel⟩, rfl, rfl⟩
  | 19, _, rfl => ⟨⟨rfl, rfl, rfl, by decide +kernel, rfl, by decide +kernel, by decide +kernel⟩, rfl, rfl⟩
  | 20, _, rfl => ⟨⟨rfl, rfl, rfl, by decide +kernel, rfl, by decide +kernel, by decide +kernel⟩, rfl, rfl⟩
  | 21, _, rfl => ⟨⟨rfl, rfl, rfl, by decide +kernel, rfl, by decide +kernel, by decide +kernel⟩, rfl, rfl⟩
  | 22, _, rfl => ⟨⟨rfl, rfl, rfl, by decide +kernel, rfl, by decide +kernel, by decide +kernel⟩, rfl, rfl⟩
  | 23, _, rfl => ⟨⟨rfl, rfl, rfl, by decide +kernel, rfl, by decide +kernel, by decide +kernel⟩, rfl, rfl⟩
  | 24, _, rfl => ⟨⟨rfl, rfl, rfl, by decide +kernel, rfl, by decide +kernel, by decide +kernel⟩, rfl, rfl⟩
  | 25, _, rfl => ⟨⟨rfl, rfl, rfl, by decide +kernel, rfl, by decide +kernel, by decide +kernel⟩, rfl, rfl⟩
  | 26, _, rfl => ⟨⟨rfl, rfl, rfl, by decide +kernel, rfl, by decide +kernel, by decide +kernel⟩, rfl, rfl⟩
  | 27, _, rfl => ⟨⟨rfl, rfl, rfl, by decide +kernel, rfl, by decide +kernel, by decide +kernel⟩, rfl, rfl⟩
  | 28, _, rfl => ⟨⟨rfl, rfl, rfl, by decide +kernel, rfl, by decide +kernel, by decide +kernel⟩, rfl, rfl⟩
  | 29, _, rfl => ⟨⟨rfl, rfl, rfl, by decide +kernel, rfl, by decide +kernel, by decide +kernel⟩, rfl, rfl⟩
  | 30, _, rfl => ⟨⟨rfl, rfl, rfl, by decide +kernel, rfl, by decide +kernel, by decide +kernel⟩, rfl, rfl⟩
  | 31, _, rfl => ⟨⟨rfl, rfl, rfl, by decide +kernel, rfl, by decide +kernel, by decide +kernel⟩, rfl, rfl⟩
  | n + 32, _, h => by simp [Ds] at h
end Lk06

set_option Elab.async false
set_option linter.all false
set_option maxRecDepth 100000
set_option maxHeartbeats 4000000
namespace Lk06
open PySem PySem.Spec PyProof.Rows L2 Iv
theorem binds : ∀ (i : Nat) (d : DefI), Ds[i]? = some d → BindN d
  | 0, _, rfl => fun _ _ _ _ _ _ us h => match us, h with | [_], _ => rfl
  | 1, _, rfl => fun _ _ _ _ _ _ us h => match us, h with | [_], _ => rfl
  | 2, _, rfl => fun _ _ _ _ _ _ us h => match us, h with | [_], _ => rfl
  | 3, _, rfl => fun _ _ _ _ _ _ us h => match us, h with | [_], _ => rfl
  | 4, _, rfl => fun _ _ _ _ _ _ us h => match us, h with | [_, _], _ => rfl
  | 5, _, rfl => fun _ _ _ _ _ _ us h => match us, h with | [_], _ => rfl
  | 6, _, rfl => fun _ _ _ _ _ _ us h => match us, h with | [_, _, _], _ => rfl
  | 7, _, rfl => fun _ _ _ _ _ _ us h => match us, h with | [_], _ => rfl
  | 8, _, rfl => fun _ _ _ _ _ _ us h => match us, h with | [_], _ => rfl
  | 9, _, rfl => fun _ _ _ _ _ _ us h => match us, h with | [_, _], _ => rfl
  | 10, _, rfl => fun _ _ _ _ _ _ us h => match us, h with | [_, _, _, _], _ => rfl
  | 11, _, rfl => fun _ _ _ _ _ _ us h => match us, h with | [_, _, _], _ => rfl
  | 12, _, rfl => fun _ _ _ _ _ _ us h => match us, h with | [_, _], _ => rfl
  | 13, _, rfl => fun _ _ _ _ _ _ us h => match us, h with | [_, _, _, _], _ => rfl
  | 14, _, rfl => fun _ _ _ _ _ _ us h => match us, h with | [_], _ => rfl
  | 15, _, rfl => fun _ _ _ _ _ _ us h => match us, h with | [_], _ => rfl
  | 16, _, rfl => fun _ _ _ _ _ _ us h => match us, h with | [_, _], _ => rfl
  | 17, _, rfl => fun _ _ _ _ _ _ us h => match us, h with | [_, _, _], _ => rfl
  | 18, _, rfl => fun _ _ _ _ _ _ us h => match us, h with | [_], _ => rfl
  | 19, _, rfl => fun _ _ _ _ _ _ us h => match us, h with | [_, _], _ => rfl
  | 20, _, rfl => fun _ _ _ _ _ _ us h => match us, h with | [_, _], _ => rfl
  | 21, _, rfl => fun _ _ _ _ _ _ us h => match us, h with | [_, _, _], _ => rfl
  | 22, _, rfl => fun _ _ _ _ _ _ us h => match us, h with | [_], _ => rfl
  | 23, _, rfl => fun _ _ _ _ _ _ us h => match us, h with | [_, _], _ => rfl
  | 24, _, rfl => fun _ _ _ _ _ _ us h => match us, h with | [_, _, _], _ => rfl
  | 25, _, rfl => fun _ _ _ _ _ _ us h => match us, h with | [_], _ => rfl
  | 26, _, rfl => fun _ _ _ _ _ _ us h => match us, h with | [_, _], _ => rfl
  | 27, _, rfl => fun _ _ _ _ _ _ us h => match us, h with | [_], _ => rfl
  | 28, _, rfl => fun _ _ _ _ _ _ us h => match us, h with | [_, _, _], _ => rfl
  | 29, _, rfl => fun _ _ _ _ _ _ us h => match us, h with | [_, _, _], _ => rfl
  | 30, _, rfl => fun _ _ _ _ _ _ us h => match us, h with | [_, _, _], _ => rfl
  | 31, _, rfl => fun _ _ _ _ _ _ us h => match us, h with | [_], _ => rfl
  | n + 32, _, h => by simp [Ds] at h
def fa : List He.Fa := [.glo "is_name", .glo "need_name", .glo "as_tuples", .glo "is_writing", .glo "need_writing", .glo "signs_in", .glo "gather_free", .glo "free_in", .glo "names_in", .glo "fresh_name", .glo "put_in", .glo "put_for", .glo "told_by", .glo "are_alike", .glo "signs_of", .glo "free_names", .glo "alike", .glo "put", .glo "_law_crate", .glo "_law_haul", .glo "_law_any", .glo "_law_drawn", .glo "_law_listed", .glo "_law_counted", .glo "_law_put", .glo "_law_scanned", .glo "_law_uses", .glo "_law_are_tuples", .glo "_law_put_right", .glo "_law_caught", .glo "_law_told_anew", .glo "law", .free "abs", .free "all", .free "int", .free "isinstance", .free "len", .free "list", .free "range", .free "set", .free "sorted", .free "str", .free "sum", .free "tuple"]
def exK (K : PySem.W.Frag) : Bool := true && gbx K "DIGITS" (.str "0123456789") && gbx K "LETTERS" (.str "abcdefghijklmnopqrstuvwxyz") && gbx K "MOST_NAME" (.int 12) && gbx K "OF" (.str "of") && gbx K "TO" (.str "to") && gbx K "WORDS" (.tup [(.str "of"), (.str "to")])
abbrev Rw : PySem.W.OpenLaw := PySem.Challenge.rw_timesagain_k06_put_in_without_catching
abbrev R : PySem.W.OpenRow := PySem.W.OpenLaw.row Rw
abbrev fnD : List He.DefD := Ds.map DefI.he
abbrev hk : PySem.W.Hook := He.hookX 4 fa fnD [] [] exK
def ob (s : PySem.W.SharedT) : He.AlX := He.obsX 4 fa fnD [] [] exK (HandSHeadRun.getT s)
theorem ob_eq (s : PySem.W.SharedT) : ob s = hk.obs s.abs := He.obsX_eq (HandSHeadRun.getT_eq s)
def loose : List PySem.Str := (["AgainError", "BadWriting", "Missing", "NoName", "LETTERS", "DIGITS", "WORDS", "MOST_NAME", "is_name", "need_name", "as_tuples", "OF", "TO", "is_writing", "need_writing", "signs_in", "gather_free", "free_in", "names_in", "fresh_name", "put_in", "put_for", "told_by", "are_alike", "signs_of", "free_names", "alike", "put", "_law_crate", "_law_haul"] : List PySem.Str) ++ (["_law_any", "_law_drawn", "_law_listed", "_law_counted", "_law_put", "_law_scanned", "_law_uses", "_law_are_tuples", "_law_put_right", "_law_caught", "_law_told_anew"] : List PySem.Str)
theorem run_top (w : World) : HandSHeadRun.RunEq R (PySem.W.view R.prog [45]) hk ob 8000 loose w := by
  intro os
  kernel_rfl
theorem zs {K : PySem.W.Frag} {h : Heap} {w : World} {mg : Str → Option Value} (X : K.In h) (G : h.Ns mainGlobals mg) (c : He.SaysX fa fnD [] [] exK w h K) : Zs K mg := by
  have e : exK K = true := c.more
  simp only [exK, Bool.and_eq_true, Bool.true_and] at e
  obtain ⟨⟨⟨⟨⟨e0, e1⟩, e2⟩, e3⟩, e4⟩, e5⟩ := e
  exact ⟨glob_of X G e0, glob_of X G e1, glob_of X G e2, glob_of X G e3, glob_of X G e4, glob_of X G e5, He.free_ok X G (He.SaysD.facts c.t.d (f := .free "abs") (by simp [fa])), He.free_ok X G (He.SaysD.facts c.t.d (f := .free "all") (by simp [fa])), He.free_ok X G (He.SaysD.facts c.t.d (f := .free "int") (by simp [fa])), He.free_ok X G (He.SaysD.facts c.t.d (f := .free "isinstance") (by simp [fa])), He.free_ok X G (He.SaysD.facts c.t.d (f := .free "len") (by simp [fa])), He.free_ok X G (He.SaysD.facts c.t.d (f := .free "list") (by simp [fa])), He.free_ok X G (He.SaysD.facts c.t.d (f := .free "range") (by simp [fa])), He.free_ok X G (He.SaysD.facts c.t.d (f := .free "set") (by simp [fa])), He.free_ok X G (He.SaysD.facts c.t.d (f := .free "sorted") (by simp [fa])), He.free_ok X G (He.SaysD.facts c.t.d (f := .free "str") (by simp [fa])), He.free_ok X G (He.SaysD.facts c.t.d (f := .free "sum") (by simp [fa])), He.free_ok X G (He.SaysD.facts c.t.d (f := .free "tuple") (by simp [fa]))⟩
theorem holds_of (hrun : ∀ ns : List Int, ns.length ≤ 63 → ∃ S', run (Fns Ds) 1000000 231 31 [.lst (ns.map D.int)] [] = some (.bl true, S')) : Rw.Holds := by
  w_on; o_law
  refine HandSHeadRun.head_any (r := R) (q := PySem.W.view R.prog [45]) (H := hk) (ob := ob) (M := 8000) (loose := loose) (d := HandSHeadRun.topDef R.prog 45) (kwd := []) ob_eq
    (by kernel_rfl) (fun s => by kernel_rfl) run_top (by kernel_rfl) (by kernel_rfl) (by kernel_rfl) (by rfl) (by first | assumption | decide +kernel) (by decide +kernel) ⟨rfl, rfl, rfl, rfl, rfl, by decide +kernel⟩ ?hw ?hc
  case hw => w_witness2
  case hc =>
    refine walk_I (l := Rw) (n := 63) (k := 231) (fi := 31) (x := "script") (F := run (Fns Ds) 1000000 231) rfl (by decide) (by kernel_rfl) ⟨rfl, by decide, by decide⟩ ?F hrun
    intro w mg f h Y G hmg0
    obtain ⟨K, KX, c⟩ := Y
    have hmg : mg ("law" : PySem.Str) = some (.ref f) := by
      have e : (HandSHeadRun.topDef R.prog 45).name = ("law" : PySem.Str) := by kernel_rfl
      rw [← e]
      exact hmg0
    have T : TopOk K mg Ds := topOk_of KX G c (by intro d hd; simp only [Ds, List.mem_cons, List.not_mem_nil, or_false] at hd; rcases hd with rfl | rfl | rfl | rfl | rfl | rfl | rfl | rfl | rfl | rfl | rfl | rfl | rfl | rfl | rfl | rfl | rfl | rfl | rfl | rfl | rfl | rfl | rfl | rfl | rfl | rfl | rfl | rfl | rfl | rfl | rfl | rfl <;> simp [fa, d_is_name, d_need_name, d_as_tuples, d_is_writing, d_need_writing, d_signs_in, d_gather_free, d_free_in, d_names_in, d_fresh_name, d_put_in, d_put_for, d_told_by, d_are_alike, d_signs_of, d_free_names, d_alike, d_put, d__law_crate, d__law_haul, d__law_any, d__law_drawn, d__law_listed, d__law_counted, d__law_put, d__law_scanned, d__law_uses, d__law_are_tuples, d__law_put_right, d__law_caught, d__law_told_anew, d_law]) binds scopes
    obtain ⟨fd, F, hb⟩ := law_fd (i := 31) T rfl rfl (binds 31 _ rfl) hmg
    exact ⟨K, fd, KX, hb, fun base _ _ => all_fnI (base := base) T (bodies (zs KX G c)) 231 31 d_law f fd rfl hmg F⟩
end Lk06

set_option Elab.async false
set_option linter.all false
set_option maxRecDepth 100000
set_option maxHeartbeats 4000000
namespace Lk06
open PySem Iv
abbrev T : List Fn := Fns Ds
theorem t0 : T[0]? = some ⟨1, 2, isNameB⟩ := rfl
theorem t2 : T[2]? = some ⟨1, 2, asTupB 2⟩ := rfl
theorem t3 : T[3]? = some ⟨1, 1, isWrB 0 3⟩ := rfl
theorem t4 : T[4]? = some ⟨2, 2, needB 3 2⟩ := rfl
theorem t6 : T[6]? = some ⟨3, 3, gathB 6⟩ := rfl
theorem t7 : T[7]? = some ⟨1, 2, freeInB 6⟩ := rfl
theorem t8 : T[8]? = some ⟨1, 1, namesB 8⟩ := rfl
theorem t9 : T[9]? = some ⟨2, 5, freshB⟩ := rfl
theorem t10 : T[10]? = some ⟨4, 7, putInB 10 7 9 8⟩ := rfl
theorem t18 : T[18]? = some ⟨1, 2, shelfB 62⟩ := rfl
theorem t19 : T[19]? = some ⟨2, 6, reachB 83047 5023 2147483549 63059 2147483399 2579 2147483563⟩ := rfl
theorem t20 : T[20]? = some ⟨2, 2, oneB 19⟩ := rfl
theorem t21 : T[21]? = some ⟨3, 4, drawnB 19 20 21⟩ := rfl
theorem nums : NumsOk 83047 5023 2147483549 63059 2147483399 2579 2147483563 := ⟨by decide, by decide, by decide, by decide, by decide, by decide, by decide⟩
theorem dr {w : Nat} (c : List Int) : Dr T w 19 c := dr_of t19 nums
variable {w n : Nat}
abbrev Good (W : Wr) : Prop := ∀ x ∈ W.names, nmOk x = true
theorem eq_cnt {V W : Wr} (gV : Good V) (gW : Good W) (dV : V.dp ≤ 180) (dW : W.dp ≤ 180) : cmpD .Eq (cnt V []).enc (cnt W []).enc = some (decide (cnt V [] = cnt W [])) := by
  have ok : ∀ {U : Wr}, Good U → U.dp ≤ 180 → D.ok (cnt U []).enc = true := fun {U} g d => by
    obtain ⟨h1, h2⟩ := cn_lay (cnt U []) fun x hx => g x (cnt_frees U [] x hx).1
    have h3 := cnt_dp U []
    unfold D.ok
    rw [cn_pure, h1]
    exact decide_eq_true (by omega)
  have e : cmpD .Eq (cnt V []).enc (cnt W []).enc = if D.ok (cnt V []).enc && D.ok (cnt W []).enc then some (D.eqv (cnt V []).enc (cnt W []).enc) else none := by
    cases cnt V [] <;> rfl
  rw [e, ok gV dV, ok gW dW, cn_eqv]
  rfl
theorem in_strs (x : Str) (l : List Str) : cmpD .In (.str x) (.lst (l.map D.str)) = some (decide (x ∈ l)) := by
  rw [in_lst rfl (flats_strs l), inFlat_strs]
theorem findIdx_strs (x : Str) : ∀ l : List Str, x ∈ l → (l.map D.str).findIdx? (fun y => D.eqv y (.str x)) = some (l.idxOf x)
  | [], h => by simp at h
  | y :: l, h => by
    rw [List.map_cons, List.findIdx?_cons, eqv_str, List.idxOf_cons]
    by_cases q : y = x
    · simp [q]
    · have ih := findIdx_strs x l ((List.mem_cons.mp h).resolve_left (fun z => q z.symm))
      have qb : (y == x) = false := beq_eq_false_iff_ne.mpr q
      rw [ih]
      simp [q, qb]
theorem index_strs {x : Str} {l : List Str} (h : x ∈ l) (S : Sto) : meD .index (.lst (l.map D.str)) [.str x] S = some (.int (l.idxOf x : Nat), S) := by
  have f1 := flats_strs l
  have f2 := findIdx_strs x l h
  simp only [meD, f1, f2, D.flat, Bool.and_self, if_true]
theorem cat_strs (x : Str) (l : List Str) (hl : l.length ≤ 50000) : opD .Add (.lst [.str x]) (.lst (l.map D.str)) = some (.lst ((x :: l).map D.str)) := by
  show (if _ then _ else _) = _
  rw [if_pos (by simp only [List.length_map, List.length_cons, List.length_nil, small, decide_eq_true_eq]; omega)]
  rfl
def cnN : Ss := (.cons (.ret (.ite (.cmp .In (.v 0) (.v 1)) (.tup (.cons (.c (.str "bound")) (.cons (.meth .index (.v 1) (.cons (.v 0) .nil)) .nil))) (.tup (.cons (.c (.str "free")) (.cons (.v 0) .nil))))) .nil)
def cnO : Ss := (.cons (.ret (.tup (.cons (.c (.str "of")) (.cons (.call 23 (.cons (.ix (.v 0) (.c (.int 2))) (.cons (.op .Add (.lst (.cons (.ix (.v 0) (.c (.int 1))) .nil)) (.v 1)) .nil))) .nil)))) .nil)
def cnT : Ss := (.cons (.ret (.tup (.cons (.c (.str "to")) (.cons (.call 23 (.cons (.ix (.v 0) (.c (.int 1))) (.cons (.v 1) .nil))) (.cons (.call 23 (.cons (.ix (.v 0) (.c (.int 2))) (.cons (.v 1) .nil))) .nil))))) .nil)
theorem t23 : T[23]? = some ⟨2, 2, .cons (.ifs (.isi (.v 0) [.str]) cnN .nil) (.cons (.ifs (.cmp .Eq (.ix (.v 0) (.c (.int 0))) (.c (.str "of"))) cnO .nil) cnT)⟩ := rfl
theorem sm_2 (a b : D) : small [a, b].length = true := rfl
theorem sm_3 (a b c : D) : small [a, b, c].length = true := rfl
theorem sm_1 (a : D) : small [a].length = true := rfl
theorem counted_ok : ∀ (W : Wr) (n : Nat) (ar : List Str) (S : Sto), W.dp + 1 ≤ n → ar.length + W.dp ≤ 40000 → run T w n 23 [W.enc, .lst (ar.map D.str)] S = some ((cnt W ar).enc, S)
  | .nm x, n, ar, S, hn, hl => by
    obtain ⟨n, rfl⟩ : ∃ m, n = m + 1 := ⟨n - 1, by omega⟩
    refine run_rts t23 rfl rfl ?_
    have z0 : [Ty.str].any (isTy (.str x)) = true := rfl
    have z1 := in_strs x ar
    by_cases q : x ∈ ar
    · rw [decide_eq_true q] at z1
      have z2 := index_strs q S
      simp only [Wr.enc, List.map_cons, List.map_nil, Nat.sub_self, List.replicate_zero, List.append_nil, exs, ex, ev, evs, see_str, see_lst, List.getElem?_cons_zero, List.getElem?_cons_succ, z0, cnN, z1, z2, Option.isSome_some, if_true, sm_2, cnt, q, Cn.enc]
    · rw [decide_eq_false q] at z1
      simp only [Wr.enc, List.map_cons, List.map_nil, Nat.sub_self, List.replicate_zero, List.append_nil, exs, ex, ev, evs, see_str, see_lst, List.getElem?_cons_zero, List.getElem?_cons_succ, z0, cnN, z1, if_true, sm_2, cnt, q, if_false, Cn.enc]
  | .of x b, n, ar, S, hn, hl => by
    simp only [Wr.dp] at hn hl
    obtain ⟨n, rfl⟩ : ∃ m, n = m + 1 := ⟨n - 1, by omega⟩
    refine run_rts t23 rfl rfl ?_
    obtain ⟨q1, q2, q3, q4, q5, q6, q7⟩ := sq3_T (.str "of") (.str x) b.enc
    have ih := counted_ok b n (x :: ar) S (by omega) (by simp only [List.length_cons]; omega)
    have z := cat_strs x ar (by omega)
    simp only [Wr.enc, List.map_cons, List.map_nil, Nat.sub_self, List.replicate_zero, List.append_nil, exs, ex, ev, evs, see_str, see_lst, q1, q2, q5, q6, q7, eq_of, List.getElem?_cons_zero, List.getElem?_cons_succ, cnO, sm_1, sm_2, if_true, z] at ih ⊢
    simp only [ih, sm_2, if_true, cnt, Cn.enc]
  | .to a b, n, ar, S, hn, hl => by
    simp only [Wr.dp] at hn hl
    obtain ⟨n, rfl⟩ : ∃ m, n = m + 1 := ⟨n - 1, by omega⟩
    refine run_rts t23 rfl rfl ?_
    obtain ⟨q1, q2, q3, q4, q5, q6, q7⟩ := sq3_T (.str "to") a.enc b.enc
    have ih1 := counted_ok a n ar S (by omega) (by omega)
    have ih2 := counted_ok b n ar S (by omega) (by omega)
    simp only [Wr.enc, List.map_cons, List.map_nil, Nat.sub_self, List.replicate_zero, List.append_nil, exs, ex, ev, evs, see_str, see_lst, q1, q2, q5, q6, q7, eq_to, List.getElem?_cons_zero, List.getElem?_cons_succ, cnT, sm_3, if_true, ih1, ih2, cnt, Cn.enc]
theorem t12 : T[12]? = some ⟨2, 2, (.cons (.ret (.ite (.cmp .In (.v 0) (.v 1)) (.meth .index (.v 1) (.cons (.v 0) .nil)) (.v 0))) .nil)⟩ := rfl
def by_ (x : Str) (l : List Str) : D := if x ∈ l then .int (l.idxOf x : Nat) else .str x
theorem told_ok (x : Str) (l : List Str) (S : Sto) : run T w (n + 1) 12 [.str x, .lst (l.map D.str)] S = some (by_ x l, S) := by
  refine run_rts t12 rfl rfl ?_
  have z1 := in_strs x l
  by_cases q : x ∈ l
  · rw [decide_eq_true q] at z1
    have z2 := index_strs q S
    simp only [List.map_cons, List.map_nil, Nat.sub_self, List.replicate_zero, List.append_nil, exs, ex, ev, evs, see_str, see_lst, List.getElem?_cons_zero, List.getElem?_cons_succ, z1, z2, Option.isSome_some, if_true, by_, q]
  · rw [decide_eq_false q] at z1
    simp only [List.map_cons, List.map_nil, Nat.sub_self, List.replicate_zero, List.append_nil, exs, ex, ev, evs, see_str, see_lst, List.getElem?_cons_zero, List.getElem?_cons_succ, z1, if_false, by_, q]
theorem by_eq {x y : Str} {l m : List Str} (hx : nmOk x = true) (hy : nmOk y = true) : cmpD .Eq (by_ x l) (by_ y m) = some (decide (cnt (.nm x) l = cnt (.nm y) m)) := by
  have ox : D.ok (.str x) = true := by
    have h := nm_lay hx
    simp only [D.ok, D.pure, D.py, PyData.canLay0, PyData.depth, h, Bool.true_and]
    rfl
  have oy : D.ok (.str y) = true := by
    have h := nm_lay hy
    simp only [D.ok, D.pure, D.py, PyData.canLay0, PyData.depth, h, Bool.true_and]
    rfl
  have oi : ∀ i : Int, D.ok (.int i) = true := fun _ => rfl
  unfold by_ cnt
  by_cases h1 : x ∈ l <;> by_cases h2 : y ∈ m
  · rw [if_pos h1, if_pos h2, if_pos h1, if_pos h2]
    show some (decide _) = _
    exact congrArg some (decide_eq_decide.mpr ⟨fun z => congrArg Cn.bd (Int.ofNat_inj.mp z), fun z => Int.ofNat_inj.mpr (Cn.bd.inj z)⟩)
  · rw [if_pos h1, if_neg h2, if_pos h1, if_neg h2]
    show (if _ then _ else _) = _
    rw [if_pos (by rw [oi, oy]; rfl)]
    simp only [reduceCtorEq, decide_false]
    rfl
  · rw [if_neg h1, if_pos h2, if_neg h1, if_pos h2]
    show (if _ then _ else _) = _
    rw [if_pos (by rw [oi, ox]; rfl)]
    simp only [reduceCtorEq, decide_false]
    rfl
  · rw [if_neg h1, if_neg h2, if_neg h1, if_neg h2]
    exact congrArg some (decide_eq_decide.mpr ⟨fun z => congrArg Cn.fr z, fun z => Cn.fr.inj z⟩)
def alB : Ss := (.cons (.ifs (.or (.isi (.v 0) [.str]) (.isi (.v 1) [.str])) (.cons (.ret (.and (.isi (.v 0) [.str]) (.and (.isi (.v 1) [.str]) (.cmp .Eq (.call 12 (.cons (.v 0) (.cons (.v 2) .nil))) (.call 12 (.cons (.v 1) (.cons (.v 3) .nil))))))) .nil) .nil) (.cons (.ifs (.cmp .NotEq (.ix (.v 0) (.c (.int 0))) (.ix (.v 1) (.c (.int 0)))) (.cons (.ret (.c (.bl false))) .nil) .nil) (.cons (.ifs (.cmp .Eq (.ix (.v 0) (.c (.int 0))) (.g "OF" (.str "of"))) (.cons (.ret (.call 13 (.cons (.ix (.v 0) (.c (.int 2))) (.cons (.ix (.v 1) (.c (.int 2))) (.cons (.lst (.cons (.ix (.v 0) (.c (.int 1))) (.star (.v 2) .nil))) (.cons (.lst (.cons (.ix (.v 1) (.c (.int 1))) (.star (.v 3) .nil))) .nil)))))) .nil) .nil) (.cons (.ret (.and (.call 13 (.cons (.ix (.v 0) (.c (.int 1))) (.cons (.ix (.v 1) (.c (.int 1))) (.cons (.v 2) (.cons (.v 3) .nil))))) (.call 13 (.cons (.ix (.v 0) (.c (.int 2))) (.cons (.ix (.v 1) (.c (.int 2))) (.cons (.v 2) (.cons (.v 3) .nil))))))) .nil))))
theorem t13 : T[13]? = some ⟨4, 4, alB⟩ := rfl
theorem isStr_nm (x : Str) : [Ty.str].any (isTy (.str x)) = true := rfl
theorem isStr_tup (l : List D) : [Ty.str].any (isTy (.tup l)) = false := rfl
theorem ne_oo : cmpD .NotEq (.str "of") (.str "of") = some false := by decide
theorem ne_tt : cmpD .NotEq (.str "to") (.str "to") = some false := by decide
theorem ne_ot : cmpD .NotEq (.str "of") (.str "to") = some true := by decide
theorem ne_to : cmpD .NotEq (.str "to") (.str "of") = some true := by decide
theorem star_small (x : D) (l : List Str) (h : l.length ≤ 50000) : small (x :: (l.map D.str ++ [])).length = true := decide_eq_true (by simp only [List.length_cons, List.append_nil, List.length_map]; omega)
theorem are_ok : ∀ (V W : Wr) (n : Nat) (l m : List Str) (S : Sto), Good V → Good W → min V.dp W.dp + 2 ≤ n → l.length + V.dp ≤ 40000 → m.length + W.dp ≤ 40000 →
    run T w n 13 [V.enc, W.enc, .lst (l.map D.str), .lst (m.map D.str)] S = some (.bl (decide (cnt V l = cnt W m)), S)
  | .nm x, .nm y, n, l, m, S, gV, gW, hn, h1, h2 => by
    obtain ⟨n, rfl⟩ : ∃ k, n = k + 2 := ⟨n - 2, by omega⟩
    refine run_rts t13 rfl rfl ?_
    have z1 := told_ok (w := w) (n := n) x l S
    have z2 := told_ok (w := w) (n := n) y m S
    have z3 := by_eq (l := l) (m := m) (gV x List.mem_cons_self) (gW y List.mem_cons_self)
    have s1 : ∀ (x : Str) l (S : Sto), see S (by_ x l) = some (by_ x l) := fun x l S => by unfold by_; split <;> rfl
    simp only [alB, Wr.enc, List.map_cons, List.map_nil, Nat.sub_self, List.replicate_zero, List.append_nil, exs, ex, ev, evs, see_str, see_lst, List.getElem?_cons_zero, List.getElem?_cons_succ, isStr_nm, z1, z2, s1, z3]
  | .nm x, .of y b, n, l, m, S, gV, gW, hn, h1, h2 => by
    obtain ⟨n, rfl⟩ : ∃ k, n = k + 2 := ⟨n - 2, by omega⟩
    refine run_rts t13 rfl rfl ?_
    have e : decide (cnt (.nm x) l = cnt (.of y b) m) = false := decide_eq_false (by simp only [cnt]; split <;> exact fun z => by cases z)
    rw [e]
    simp only [alB, Wr.enc, List.map_cons, List.map_nil, Nat.sub_self, List.replicate_zero, List.append_nil, exs, ex, ev, evs, see_str, see_lst, see_tup, List.getElem?_cons_zero, List.getElem?_cons_succ, isStr_nm, isStr_tup]
  | .nm x, .to a b, n, l, m, S, gV, gW, hn, h1, h2 => by
    obtain ⟨n, rfl⟩ : ∃ k, n = k + 2 := ⟨n - 2, by omega⟩
    refine run_rts t13 rfl rfl ?_
    have e : decide (cnt (.nm x) l = cnt (.to a b) m) = false := decide_eq_false (by simp only [cnt]; split <;> exact fun z => by cases z)
    rw [e]
    simp only [alB, Wr.enc, List.map_cons, List.map_nil, Nat.sub_self, List.replicate_zero, List.append_nil, exs, ex, ev, evs, see_str, see_lst, see_tup, List.getElem?_cons_zero, List.getElem?_cons_succ, isStr_nm, isStr_tup]
  | .of y b, .nm x, n, l, m, S, gV, gW, hn, h1, h2 => by
    obtain ⟨n, rfl⟩ : ∃ k, n = k + 2 := ⟨n - 2, by omega⟩
    refine run_rts t13 rfl rfl ?_
    have e : decide (cnt (.of y b) l = cnt (.nm x) m) = false := decide_eq_false (by simp only [cnt]; split <;> exact fun z => by cases z)
    rw [e]
    simp only [alB, Wr.enc, List.map_cons, List.map_nil, Nat.sub_self, List.replicate_zero, List.append_nil, exs, ex, ev, evs, see_str, see_lst, see_tup, List.getElem?_cons_zero, List.getElem?_cons_succ, isStr_nm, isStr_tup]
  | .to a b, .nm x, n, l, m, S, gV, gW, hn, h1, h2 => by
    obtain ⟨n, rfl⟩ : ∃ k, n = k + 2 := ⟨n - 2, by omega⟩
    refine run_rts t13 rfl rfl ?_
    have e : decide (cnt (.to a b) l = cnt (.nm x) m) = false := decide_eq_false (by simp only [cnt]; split <;> exact fun z => by cases z)
    rw [e]
    simp only [alB, Wr.enc, List.map_cons, List.map_nil, Nat.sub_self, List.replicate_zero, List.append_nil, exs, ex, ev, evs, see_str, see_lst, see_tup, List.getElem?_cons_zero, List.getElem?_cons_succ, isStr_nm, isStr_tup]
  | .of x b, .of y c, n, l, m, S, gV, gW, hn, h1, h2 => by
    simp only [Wr.dp] at hn h1 h2
    obtain ⟨n, rfl⟩ : ∃ k, n = k + 1 := ⟨n - 1, by omega⟩
    refine run_rts t13 rfl rfl ?_
    have ih := are_ok b c n (x :: l) (y :: m) S (fun z hz => gV z (List.mem_cons_of_mem _ hz)) (fun z hz => gW z (List.mem_cons_of_mem _ hz)) (by omega) (by simp only [List.length_cons]; omega) (by simp only [List.length_cons]; omega)
    obtain ⟨q1, q2, q3, q4, q5, q6, q7⟩ := sq3_T (.str "of") (.str x) b.enc
    obtain ⟨p1, p2, p3, p4, p5, p6, p7⟩ := sq3_T (.str "of") (.str y) c.enc
    have s1 := star_small (.str x) l (by omega)
    have s2 := star_small (.str y) m (by omega)
    rw [List.append_nil] at s1 s2
    simp only [List.map_cons] at ih
    simp only [alB, Wr.enc, List.map_cons, List.map_nil, Nat.sub_self, List.replicate_zero, List.append_nil, exs, ex, ev, evs, see_str, see_lst, q1, q2, q5, q6, q7, p1, p2, p5, p6, p7, eq_of, ne_oo, List.getElem?_cons_zero, List.getElem?_cons_succ, s1, s2, if_true, ih, cnt, Cn.of.injEq]
  | .to a b, .to c d, n, l, m, S, gV, gW, hn, h1, h2 => by
    simp only [Wr.dp] at hn h1 h2
    obtain ⟨n, rfl⟩ : ∃ k, n = k + 1 := ⟨n - 1, by omega⟩
    refine run_rts t13 rfl rfl ?_
    have ih1 := are_ok a c n l m S (fun z hz => gV z (List.mem_append_left _ hz)) (fun z hz => gW z (List.mem_append_left _ hz)) (by omega) (by omega) (by omega)
    have ih2 := are_ok b d n l m S (fun z hz => gV z (List.mem_append_right _ hz)) (fun z hz => gW z (List.mem_append_right _ hz)) (by omega) (by omega) (by omega)
    obtain ⟨q1, q2, q3, q4, q5, q6, q7⟩ := sq3_T (.str "to") a.enc b.enc
    obtain ⟨p1, p2, p3, p4, p5, p6, p7⟩ := sq3_T (.str "to") c.enc d.enc
    simp only [alB, Wr.enc, List.map_cons, List.map_nil, Nat.sub_self, List.replicate_zero, List.append_nil, exs, ex, ev, evs, see_str, see_lst, q1, q2, q5, q6, q7, p1, p2, p5, p6, p7, eq_to, ne_tt, List.getElem?_cons_zero, List.getElem?_cons_succ, if_true, ih1, ih2, cnt, Cn.to.injEq]
    by_cases e : cnt a l = cnt c m <;> simp [e, ih2]
  | .of x b, .to c d, n, l, m, S, gV, gW, hn, h1, h2 => by
    obtain ⟨n, rfl⟩ : ∃ k, n = k + 1 := ⟨n - 1, by omega⟩
    refine run_rts t13 rfl rfl ?_
    obtain ⟨q1, q2, q3, q4, q5, q6, q7⟩ := sq3_T (.str "of") (.str x) b.enc
    obtain ⟨p1, p2, p3, p4, p5, p6, p7⟩ := sq3_T (.str "to") c.enc d.enc
    simp only [alB, Wr.enc, List.map_cons, List.map_nil, Nat.sub_self, List.replicate_zero, List.append_nil, exs, ex, ev, evs, see_str, see_lst, q1, q2, q5, q6, q7, p1, p2, p5, p6, p7, ne_ot, List.getElem?_cons_zero, List.getElem?_cons_succ, if_true, cnt, reduceCtorEq, decide_false]
  | .to a b, .of y c, n, l, m, S, gV, gW, hn, h1, h2 => by
    obtain ⟨n, rfl⟩ : ∃ k, n = k + 1 := ⟨n - 1, by omega⟩
    refine run_rts t13 rfl rfl ?_
    obtain ⟨q1, q2, q3, q4, q5, q6, q7⟩ := sq3_T (.str "to") a.enc b.enc
    obtain ⟨p1, p2, p3, p4, p5, p6, p7⟩ := sq3_T (.str "of") (.str y) c.enc
    simp only [alB, Wr.enc, List.map_cons, List.map_nil, Nat.sub_self, List.replicate_zero, List.append_nil, exs, ex, ev, evs, see_str, see_lst, q1, q2, q5, q6, q7, p1, p2, p5, p6, p7, ne_to, List.getElem?_cons_zero, List.getElem?_cons_succ, if_true, cnt, reduceCtorEq, decide_false]
theorem t16 : T[16]? = some ⟨2, 3, b_alike⟩ := rfl
theorem alike_ok {d e : D} {V W : Wr} (hV : Enc d V) (hW : Enc e W) (gV : Good V) (gW : Good W) (dV : V.dp + 4 ≤ n) (dW : W.dp + 4 ≤ n) (hn : n ≤ 1000) (S : Sto) : run T w (n + 1) 16 [d, e] S = some (.bl (decide (cnt V [] = cnt W [])), S) := by
  obtain ⟨n, rfl⟩ : ∃ k, n = k + 1 := ⟨n - 1, by omega⟩
  refine run_rts t16 rfl rfl ?_
  have z1 := need_ok (w := w) (n := n) t0 t3 t2 t4 (S := S) (p := .str "one") hV gV (by omega)
  have z2 := need_ok (w := w) (n := n) t0 t3 t2 t4 (S := S) (p := .str "other") hW gW (by omega)
  have z3 := are_ok (w := w) V W (n + 1) [] [] S gV gW (by omega) (by simp only [List.length_nil]; omega) (by simp only [List.length_nil]; omega)
  have z3' : run T w (n + 1) 13 [V.enc, W.enc, .lst [], .lst []] S = some (.bl (decide (cnt V [] = cnt W [])), S) := z3
  have sm0 : small ([] : List D).length = true := rfl
  simp only [b_alike, List.map_cons, List.map_nil, Nat.reduceSub, List.replicate_succ, List.replicate_zero, List.cons_append, List.nil_append, exs, ex, ev, evs, List.getElem?_cons_zero, List.getElem?_cons_succ, setT, List.set_cons_succ, List.set_cons_zero, z1, z2, sm0, if_true, z3']
end Lk06

set_option Elab.async false
set_option linter.all false
set_option maxRecDepth 100000
set_option maxHeartbeats 4000000
namespace Lk06
open PySem Iv
variable {w n : Nat}
theorem t1 : T[1]? = some ⟨1, 1, b_need_name⟩ := rfl
theorem t11 : T[11]? = some ⟨3, 3, b_put_for⟩ := rfl
theorem t17 : T[17]? = some ⟨3, 4, b_put⟩ := rfl
/-- put: what comes -/
structure PutIs (W : Wr) (x : Str) (O W' : Wr) : Prop where
  good : Good W'
  dp : W'.dp ≤ W.dp + O.dp
  size : W'.size ≤ W.size * O.size
  cnt : cnt W' [] = Cn.sub x (cnt O []) (cnt W [])
  cnts : ∀ ar : List Str, x ∉ ar → (∀ y ∈ O.fr, y ∉ ar) → Iv.cnt W' ar = Cn.sub x (Iv.cnt O []) (Iv.cnt W ar)
theorem put_ok {W O : Wr} {x : Str} (gW : Good W) (gx : nmOk x = true) (gO : Good O) (hz : O.size + W.size ≤ 190) (dW : W.dp + 8 ≤ n) (dO : O.dp + 8 ≤ n) (S : Sto) :
    ∃ W', PutIs W x O W' ∧ ∀ eW eO, Enc eW W → Enc eO O → run T w (n + 1) 17 [eW, .str x, eO] S = some (W'.enc, S) := by
  obtain ⟨n, rfl⟩ : ∃ m, n = m + 2 := ⟨n - 2, by omega⟩
  have a3 : run T w (n + 2) 1 [.str x] S = some (.non, S) := by
    refine run_nxs (ρ := [some (.str x)]) t1 rfl rfl ?_
    have := isName_ok (w := w) (n := n) t0 gx S
    simp only [b_need_name, List.map_cons, List.map_nil, Nat.sub_self, List.replicate_zero, List.append_nil, exs, ex, ev, evs, List.getElem?_cons_zero, this, Bool.not_true]
  obtain ⟨W', b1, b2, b3, b4, b5, b6⟩ := put_in_ok (w := w) (S := S) t10 t6 t7 t8 t9 (x := x) gO W.size W (n + 1) (Nat.le_refl _) (by omega) gW hz
  have a4 : run T w (n + 2) 11 [W.enc, .str x, O.enc] S = some (W'.enc, S) := by
    refine run_rts t11 rfl rfl ?_
    have c2 := freeIn_ok (w := w) (n := n) t6 t7 O S (by omega) (by omega)
    simp only [b_put_for, List.map_cons, List.map_nil, Nat.sub_self, List.replicate_zero, List.append_nil, exs, ex, ev, evs, List.getElem?_cons_zero, List.getElem?_cons_succ, c2, b1]
  refine ⟨W', ⟨b2, b3, b4, b6 [] (by simp) (by simp), b6⟩, fun eW eO hW hO => run_rts t17 rfl rfl ?_⟩
  have a1 := need_ok (w := w) (n := n + 1) t0 t3 t2 t4 (S := S) (p := .str "writing") hW gW (by omega)
  have a2 := need_ok (w := w) (n := n + 1) t0 t3 t2 t4 (S := S) (p := .str "other") hO gO (by omega)
  simp only [b_put, List.map_cons, List.map_nil, Nat.reduceSub, List.replicate_succ, List.replicate_zero, List.cons_append, List.nil_append, exs, ex, ev, evs, List.getElem?_cons_zero, List.getElem?_cons_succ, setT, List.set_cons_succ, List.set_cons_zero, a1, a2, a3, a4]
theorem ev_comp1 {F : CF} {i : Nat} {it elt : E} {ρ : Iv.Env} {S S1 : Sto} {x a a' : D} (h1 : ev F it ρ S = some (x, S1)) (h2 : items x = some [a]) (ha : ev F elt ((ρ.set i none).set i (some a)) S1 = some (a', S1)) : ev F (.comp false (.n i) it elt) ρ S = some (.lst [a'], S1) := by
  simp only [ev, h1, h2, compRun, setT, wipeT, ha, List.length_nil, small, mkList, List.nil_append, Bool.false_eq_true, if_false]
  rfl
theorem ev_comp2 {F : CF} {i : Nat} {it elt : E} {ρ : Iv.Env} {S S1 : Sto} {x a b a' b' : D} (h1 : ev F it ρ S = some (x, S1)) (h2 : items x = some [a, b]) (ha : ev F elt ((ρ.set i none).set i (some a)) S1 = some (a', S1)) (hb : ev F elt ((ρ.set i none).set i (some b)) S1 = some (b', S1)) : ev F (.comp false (.n i) it elt) ρ S = some (.lst [a', b'], S1) := by
  simp only [ev, h1, h2, compRun, setT, wipeT, ha, hb, List.length_nil, List.length_cons, List.length_append, small, mkList, List.nil_append, List.cons_append, Bool.false_eq_true, if_false]
  rfl
theorem in_bf (x : Str) : cmpD .In (.str x) (.tup [.str "bound", .str "free"]) = some (decide (("bound" : Str) = x) || decide (("free" : Str) = x)) := by
  rw [in_tup rfl rfl]
  simp only [inFlat, List.any_cons, List.any_nil, eqv_str, Bool.or_false]
theorem in_b : cmpD .In (.str "bound") (.tup [.str "bound", .str "free"]) = some true := by rw [in_bf]; decide
theorem in_f : cmpD .In (.str "free") (.tup [.str "bound", .str "free"]) = some true := by rw [in_bf]; decide
theorem in_o : cmpD .In (.str "of") (.tup [.str "bound", .str "free"]) = some false := by rw [in_bf]; decide
theorem in_t : cmpD .In (.str "to") (.tup [.str "bound", .str "free"]) = some false := by rw [in_bf]; decide
abbrev GoodC (m : Cn) : Prop := ∀ x ∈ m.frees, nmOk x = true
theorem cn_ok {m : Cn} (g : GoodC m) (d : m.dp ≤ 180) : D.ok m.enc = true := by
  obtain ⟨h1, h2⟩ := cn_lay m g
  unfold D.ok
  rw [cn_pure, h1]
  exact decide_eq_true (by omega)
theorem cn_eq {a b : Cn} (ga : GoodC a) (gb : GoodC b) (da : a.dp ≤ 180) (db : b.dp ≤ 180) : cmpD .Eq a.enc b.enc = some (decide (a = b)) := by
  have e : cmpD .Eq a.enc b.enc = if D.ok a.enc && D.ok b.enc then some (D.eqv a.enc b.enc) else none := by cases a <;> rfl
  rw [e, cn_ok ga da, cn_ok gb db, cn_eqv]
  rfl
theorem cn_ne {a b : Cn} (ga : GoodC a) (gb : GoodC b) (da : a.dp ≤ 180) (db : b.dp ≤ 180) : cmpD .NotEq a.enc b.enc = some (!decide (a = b)) := by
  have e : cmpD .NotEq a.enc b.enc = if D.ok a.enc && D.ok b.enc then some (!D.eqv a.enc b.enc) else none := by cases a <;> rfl
  rw [e, cn_ok ga da, cn_ok gb db, cn_eqv]
  rfl
def lpC : E := (.comp false (.n 3) (.sl (.v 0) (.c (.int 1)) (.c .non)) (.call 24 (.cons (.v 3) (.cons (.v 1) (.cons (.v 2) .nil)))))
theorem t24 : T[24]? = some ⟨3, 4, (.cons (.ifs (.cmp .In (.ix (.v 0) (.c (.int 0))) (.tup (.cons (.c (.str "bound")) (.cons (.c (.str "free")) .nil)))) (.cons (.ret (.ite (.cmp .Eq (.v 0) (.tup (.cons (.c (.str "free")) (.cons (.v 1) .nil)))) (.v 2) (.v 0))) .nil) .nil) (.cons (.ret (.op .Add (.tup (.cons (.ix (.v 0) (.c (.int 0))) .nil)) (.bi .tuple (.cons lpC .nil)))) .nil))⟩ := rfl
theorem lp_leaf {x : Str} {m : Cn} {o : D} (gx : nmOk x = true) (gm : GoodC m) (hm : (∃ i, m = .bd i) ∨ ∃ y, m = .fr y) (S : Sto) : run T w (n + 1) 24 [m.enc, .str x, o] S = some (if m = .fr x then o else m.enc, S) := by
  have e := cn_eq (a := m) (b := .fr x) gm (fun y hy => by rw [List.mem_singleton.mp hy]; exact gx) (by rcases hm with ⟨i, rfl⟩ | ⟨y, rfl⟩ <;> exact Nat.zero_le _) (Nat.zero_le _)
  have e' : cmpD .Eq m.enc (.tup [.str "free", .str x]) = some (decide (m = .fr x)) := e
  have i0 : ∃ t, ixD m.enc (.int 0) = some (.str t) ∧ cmpD .In (.str t) (.tup [.str "bound", .str "free"]) = some true := by
    rcases hm with ⟨i, rfl⟩ | ⟨y, rfl⟩
    · exact ⟨"bound", rfl, in_b⟩
    · exact ⟨"free", rfl, in_f⟩
  obtain ⟨t, i1, i2⟩ := i0
  have sc : see S m.enc = some m.enc := by cases m <;> rfl
  refine run_rts t24 rfl rfl ?_
  by_cases h : m = .fr x
  · rw [decide_eq_true h] at e'
    rw [if_pos h]
    generalize m.enc = d at *
    simp only [List.map_cons, List.map_nil, Nat.reduceSub, List.replicate_succ, List.replicate_zero, List.cons_append, List.nil_append, exs, ex, ev, evs, see_str, see_tup, sc, sm_2, if_true, List.getElem?_cons_zero, List.getElem?_cons_succ, i1, i2, e']
  · rw [decide_eq_false h] at e'
    rw [if_neg h]
    generalize m.enc = d at *
    simp only [List.map_cons, List.map_nil, Nat.reduceSub, List.replicate_succ, List.replicate_zero, List.cons_append, List.nil_append, exs, ex, ev, evs, see_str, see_tup, sc, sm_2, if_true, List.getElem?_cons_zero, List.getElem?_cons_succ, i1, i2, e']
theorem lp_ok {x : Str} {o : Cn} (gx : nmOk x = true) {S : Sto} : ∀ (m : Cn) (n : Nat), GoodC m → m.dp + 1 ≤ n → run T w n 24 [m.enc, .str x, o.enc] S = some ((Cn.sub x o m).enc, S)
  | .bd i, n, gm, hn => by
    obtain ⟨n, rfl⟩ : ∃ k, n = k + 1 := ⟨n - 1, by omega⟩
    rw [lp_leaf gx gm (.inl ⟨i, rfl⟩) S, if_neg (by simp)]
    rfl
  | .fr y, n, gm, hn => by
    obtain ⟨n, rfl⟩ : ∃ k, n = k + 1 := ⟨n - 1, by omega⟩
    rw [lp_leaf gx gm (.inr ⟨y, rfl⟩) S]
    by_cases h : y = x <;> simp [Cn.sub, h]
  | .of b, n, gm, hn => by
    simp only [Cn.dp] at hn
    obtain ⟨n, rfl⟩ : ∃ k, n = k + 1 := ⟨n - 1, by omega⟩
    have ih := lp_ok (o := o) gx (S := S) b n gm (by omega)
    have c : ev (run T w n) lpC [some (.tup [.str "of", b.enc]), some (.str x), some o.enc, none] S = some (.lst [(Cn.sub x o b).enc], S) := by
      have hs : ev (run T w n) (.sl (.v 0) (.c (.int 1)) (.c .non)) [some (.tup [.str "of", b.enc]), some (.str x), some o.enc, none] S = some (.tup [b.enc], S) := rfl
      refine ev_comp1 hs rfl ?_
      simp only [ev, evs, List.set_cons_succ, List.set_cons_zero, List.getElem?_cons_zero, List.getElem?_cons_succ, ih]
    refine run_rts t24 rfl rfl ?_
    have i0 : ixD (.tup [.str "of", b.enc]) (.int 0) = some (.str "of") := rfl
    have zt : ∀ l : List D, biD .tuple [.lst l] = some (.tup l) := fun _ => rfl
    have za : ∀ a b : D, opD .Add (.tup [a]) (.tup [b]) = some (.tup [a, b]) := fun _ _ => rfl
    simp only [Cn.enc, Cn.sub, List.map_cons, List.map_nil, Nat.reduceSub, List.replicate_succ, List.replicate_zero, List.cons_append, List.nil_append, exs, ex, ev, evs, see_str, see_tup, see_lst, seeAll, sm_2, sm_1, if_true, List.getElem?_cons_zero, List.getElem?_cons_succ, i0, in_o, c, zt, za]
  | .to a b, n, gm, hn => by
    simp only [Cn.dp] at hn
    obtain ⟨n, rfl⟩ : ∃ k, n = k + 1 := ⟨n - 1, by omega⟩
    have ih1 := lp_ok (o := o) gx (S := S) a n (fun y hy => gm y (List.mem_append_left _ hy)) (by omega)
    have ih2 := lp_ok (o := o) gx (S := S) b n (fun y hy => gm y (List.mem_append_right _ hy)) (by omega)
    have c : ev (run T w n) lpC [some (.tup [.str "to", a.enc, b.enc]), some (.str x), some o.enc, none] S = some (.lst [(Cn.sub x o a).enc, (Cn.sub x o b).enc], S) := by
      have hs : ev (run T w n) (.sl (.v 0) (.c (.int 1)) (.c .non)) [some (.tup [.str "to", a.enc, b.enc]), some (.str x), some o.enc, none] S = some (.tup [a.enc, b.enc], S) := rfl
      refine ev_comp2 hs rfl ?_ ?_
      · simp only [ev, evs, List.set_cons_succ, List.set_cons_zero, List.getElem?_cons_zero, List.getElem?_cons_succ, ih1]
      · simp only [ev, evs, List.set_cons_succ, List.set_cons_zero, List.getElem?_cons_zero, List.getElem?_cons_succ, ih2]
    refine run_rts t24 rfl rfl ?_
    have i0 : ixD (.tup [.str "to", a.enc, b.enc]) (.int 0) = some (.str "to") := rfl
    have zt : ∀ l : List D, biD .tuple [.lst l] = some (.tup l) := fun _ => rfl
    have za : ∀ a b c : D, opD .Add (.tup [a]) (.tup [b, c]) = some (.tup [a, b, c]) := fun _ _ _ => rfl
    simp only [Cn.enc, Cn.sub, List.map_cons, List.map_nil, Nat.reduceSub, List.replicate_succ, List.replicate_zero, List.cons_append, List.nil_append, exs, ex, ev, evs, see_str, see_tup, see_lst, seeAll, sm_2, sm_1, if_true, List.getElem?_cons_zero, List.getElem?_cons_succ, i0, in_t, c, zt, za]
end Lk06

set_option Elab.async false
set_option linter.all false
set_option maxRecDepth 100000
set_option maxHeartbeats 4000000
namespace Lk06
open PySem Iv
variable {w n : Nat}
theorem sub_frees (x : Str) (o : Cn) : ∀ m : Cn, ∀ y ∈ (Cn.sub x o m).frees, y ∈ o.frees ∨ y ∈ m.frees
  | .bd i, y, h => .inr h
  | .fr z, y, h => by
    simp only [Cn.sub] at h
    split at h
    · exact .inl h
    · exact .inr h
  | .of b, y, h => sub_frees x o b y h
  | .to a b, y, h => by
    rcases List.mem_append.mp h with h | h
    · exact (sub_frees x o a y h).imp id fun q => List.mem_append_left _ q
    · exact (sub_frees x o b y h).imp id fun q => List.mem_append_right _ q
theorem sub_dp (x : Str) (o : Cn) : ∀ m : Cn, (Cn.sub x o m).dp ≤ m.dp + o.dp
  | .bd i => Nat.zero_le _
  | .fr z => by
    simp only [Cn.sub]
    split
    · omega
    · exact Nat.zero_le _
  | .of b => by simp only [Cn.sub, Cn.dp]; have := sub_dp x o b; omega
  | .to a b => by simp only [Cn.sub, Cn.dp]; have := sub_dp x o a; have := sub_dp x o b; omega
theorem sub_good {x : Str} {o m : Cn} (go : GoodC o) (gm : GoodC m) : GoodC (Cn.sub x o m) := fun y hy => (sub_frees x o m y hy).elim (go y) (gm y)
theorem sub_iff (x : Str) (o : Cn) : ∀ (m : Cn) (y : Str), y ∈ (Cn.sub x o m).frees ↔ (y ∈ m.frees ∧ y ≠ x) ∨ (x ∈ m.frees ∧ y ∈ o.frees)
  | .bd i, y => by simp [Cn.sub, Cn.frees]
  | .fr z, y => by
    by_cases h : z = x
    · subst h
      simp only [Cn.sub, if_true, Cn.frees, List.mem_singleton]
      constructor
      · exact fun q => .inr ⟨by trivial, q⟩
      · rintro (⟨q1, q2⟩ | ⟨_, q⟩)
        · exact absurd q1 q2
        · exact q
    · simp only [Cn.sub, h, if_false, Cn.frees, List.mem_singleton]
      constructor
      · exact fun q => .inl ⟨q, by rw [q]; exact h⟩
      · rintro (⟨q1, q2⟩ | ⟨q, _⟩)
        · exact q1
        · exact absurd q.symm h
  | .of b, y => sub_iff x o b y
  | .to a b, y => by
    have h1 := sub_iff x o a y
    have h2 := sub_iff x o b y
    simp only [Cn.sub, Cn.frees, List.mem_append, h1, h2]
    constructor
    · rintro ((⟨q1, q2⟩ | ⟨q1, q2⟩) | (⟨q1, q2⟩ | ⟨q1, q2⟩))
      · exact .inl ⟨.inl q1, q2⟩
      · exact .inr ⟨.inl q1, q2⟩
      · exact .inl ⟨.inr q1, q2⟩
      · exact .inr ⟨.inr q1, q2⟩
    · rintro (⟨q1 | q1, q2⟩ | ⟨q1 | q1, q2⟩)
      · exact .inl (.inl ⟨q1, q2⟩)
      · exact .inr (.inl ⟨q1, q2⟩)
      · exact .inl (.inr ⟨q1, q2⟩)
      · exact .inr (.inr ⟨q1, q2⟩)
theorem sub_self (x : Str) : ∀ m : Cn, Cn.sub x (.fr x) m = m
  | .bd i => rfl
  | .fr z => by by_cases h : z = x <;> simp [Cn.sub, h]
  | .of b => by simp only [Cn.sub, sub_self x b]
  | .to a b => by simp only [Cn.sub, sub_self x a, sub_self x b]
def Cn.uses (x : Str) : Cn → Nat
  | .bd _ => 0
  | .fr y => if y = x then 1 else 0
  | .of b => Cn.uses x b
  | .to a b => Cn.uses x a + Cn.uses x b
def Cn.sz : Cn → Nat
  | .bd _ => 1
  | .fr _ => 1
  | .of b => Cn.sz b + 1
  | .to a b => Cn.sz a + Cn.sz b + 1
theorem cn_sz_pos : ∀ m : Cn, 0 < Cn.sz m
  | .bd _ => Nat.zero_lt_one
  | .fr _ => Nat.zero_lt_one
  | .of _ => Nat.succ_pos _
  | .to _ _ => Nat.succ_pos _
theorem cnt_sz : ∀ (W : Wr) (ar : List Str), Cn.sz (cnt W ar) = W.size
  | .nm x, ar => by simp only [cnt]; split <;> rfl
  | .of x b, ar => by simp only [cnt, Cn.sz, Wr.size, cnt_sz b]
  | .to a b, ar => by simp only [cnt, Cn.sz, Wr.size, cnt_sz a, cnt_sz b]
theorem sub_sz (x : Str) (o : Cn) : ∀ m : Cn, Cn.sz (Cn.sub x o m) = Cn.sz m + Cn.uses x m * (Cn.sz o - 1)
  | .bd i => by simp [Cn.sub, Cn.sz, Cn.uses]
  | .fr z => by
    have := cn_sz_pos o
    by_cases h : z = x
    · simp only [Cn.sub, Cn.sz, Cn.uses, h, if_true]; omega
    · simp [Cn.sub, Cn.sz, Cn.uses, h]
  | .of b => by simp only [Cn.sub, Cn.sz, Cn.uses, sub_sz x o b]; omega
  | .to a b => by simp only [Cn.sub, Cn.sz, Cn.uses, sub_sz x o a, sub_sz x o b, Nat.add_mul]; omega
theorem uses_pos (x : Str) : ∀ m : Cn, 0 < Cn.uses x m ↔ x ∈ m.frees
  | .bd i => by simp [Cn.uses, Cn.frees]
  | .fr z => by
    by_cases h : z = x
    · simp [Cn.uses, Cn.frees, h]
    · simp [Cn.uses, Cn.frees, h, Ne.symm h]
  | .of b => uses_pos x b
  | .to a b => by
    have h1 := uses_pos x a
    have h2 := uses_pos x b
    simp only [Cn.uses, Cn.frees, List.mem_append, ← h1, ← h2]
    omega
theorem uses_le (x : Str) : ∀ m : Cn, Cn.uses x m ≤ Cn.sz m
  | .bd i => Nat.zero_le _
  | .fr z => by simp only [Cn.uses, Cn.sz]; split <;> omega
  | .of b => by have := uses_le x b; simp only [Cn.uses, Cn.sz]; omega
  | .to a b => by have := uses_le x a; have := uses_le x b; simp only [Cn.uses, Cn.sz]; omega
/-- the free names of a writing are those of what is counted, in the order of its text -/
theorem occ_frees : ∀ (W : Wr) (bd ar : List Str), (∀ y, y ∈ bd ↔ y ∈ ar) → W.occ bd = (cnt W ar).frees
  | .nm x, bd, ar, h => by
    simp only [Wr.occ, cnt, h x]
    split <;> rfl
  | .of x b, bd, ar, h => by
    simp only [Wr.occ, cnt, Cn.frees]
    exact occ_frees b (bd ++ [x]) (x :: ar) fun y => by
      simp only [List.mem_append, List.mem_cons, h y, List.not_mem_nil, or_false]
      exact or_comm
  | .to a b, bd, ar, h => by simp only [Wr.occ, cnt, Cn.frees, occ_frees a bd ar h, occ_frees b bd ar h]
theorem fr_is (W : Wr) : W.fr = add [] (cnt W []).frees := by rw [Wr.fr, occ_frees W [] [] fun _ => Iff.rfl]
theorem fresh1_add : ∀ (l f : List Str), fresh1 f l = add f l
  | [], f => rfl
  | x :: l, f => by
    rw [fresh1, add]
    split
    · exact fresh1_add l f
    · exact fresh1_add l _
theorem mem_fresh (l : List Str) (y : Str) : y ∈ fresh1 [] l ↔ y ∈ l := by
  rw [fresh1_add, mem_add]
  simp
theorem fresh_nodup (l : List Str) : (fresh1 [] l).Nodup := by
  rw [fresh1_add]
  exact add_nodup _ _ List.nodup_nil
/-- two of the same members, each once -/
theorem same_perm {l m : List Str} (hl : l.Nodup) (hm : m.Nodup) (h : ∀ y, y ∈ l ↔ y ∈ m) : l.Perm m := by
  have h1 : ∀ {l m : List Str}, l.Nodup → m.Nodup → (∀ y ∈ l, y ∈ m) → l.length ≤ m.length := by
    intro l
    induction l with
    | nil => intro m _ _ _; exact Nat.zero_le _
    | cons x l ih =>
      intro m nl nm hs
      have hx := hs x List.mem_cons_self
      obtain ⟨a1, a2⟩ := List.nodup_cons.mp nl
      have hp := List.perm_cons_erase hx
      have he := hp.length_eq
      have := ih (m := m.erase x) a2 (nm.erase x) fun y hy => (List.mem_erase_of_ne (fun z : y = x => a1 (by rw [← z]; exact hy))).mpr (hs y (List.mem_cons_of_mem _ hy))
      simp only [List.length_cons] at he ⊢
      omega
  exact perm_of_sub hl (fun y hy => (h y).mp hy) (h1 hm hl fun y hy => (h y).mpr hy)
theorem t5 : T[5]? = some ⟨1, 1, b_signs_in⟩ := rfl
theorem eq_to3 : cmpD .Eq (.str "to") (.str "to") = some true := congrArg some (decide_eq_true rfl)
theorem eq_of3 : cmpD .Eq (.str "of") (.str "to") = some false := congrArg some (by decide)
theorem signs_ok : ∀ (W : Wr) (n : Nat) (S : Sto), W.dp + 1 ≤ n → run T w n 5 [W.enc] S = some (.int W.size, S)
  | .nm x, n, S, hn => by
    obtain ⟨n, rfl⟩ : ∃ k, n = k + 1 := ⟨n - 1, by omega⟩
    refine run_rts t5 rfl rfl ?_
    simp only [b_signs_in, Wr.enc, List.map_cons, List.map_nil, Nat.sub_self, List.replicate_zero, List.cons_append, List.nil_append, exs, ex, ev, List.getElem?_cons_zero, see_str, isStr_nm, Wr.size]
    rfl
  | .of x b, n, S, hn => by
    obtain ⟨n, rfl⟩ : ∃ k, n = k + 1 := ⟨n - 1, by omega⟩
    simp only [Wr.dp] at hn
    have ih := signs_ok b n S (by omega)
    obtain ⟨q1, q2, q3, q4, q5, q6, q7⟩ := sq3_T (.str "of") (.str x) b.enc
    refine run_rts t5 rfl rfl ?_
    simp only [b_signs_in, Wr.enc, List.map_cons, List.map_nil, Nat.sub_self, List.replicate_zero, List.cons_append, List.nil_append, exs, ex, ev, evs, List.getElem?_cons_zero, see_tup, see_str, see_int, q2, q5, q7, eq_of3, ih, op_add]
    exact congrArg (fun i => some (Out.rt (.int i), S)) (by simp only [Wr.size]; omega)
  | .to a b, n, S, hn => by
    obtain ⟨n, rfl⟩ : ∃ k, n = k + 1 := ⟨n - 1, by omega⟩
    simp only [Wr.dp] at hn
    have ih1 := signs_ok a n S (by omega)
    have ih2 := signs_ok b n S (by omega)
    obtain ⟨q1, q2, q3, q4, q5, q6, q7⟩ := sq3_T (.str "to") a.enc b.enc
    refine run_rts t5 rfl rfl ?_
    simp only [b_signs_in, Wr.enc, List.map_cons, List.map_nil, Nat.sub_self, List.replicate_zero, List.cons_append, List.nil_append, exs, ex, ev, evs, List.getElem?_cons_zero, see_tup, see_str, see_int, q2, q5, q6, q7, eq_to3, ih1, ih2, op_add]
    exact congrArg (fun i => some (Out.rt (.int i), S)) (by simp only [Wr.size]; omega)
theorem t14 : T[14]? = some ⟨1, 1, b_signs_of⟩ := rfl
theorem signsOf_ok {W : Wr} (gW : Good W) (hn : W.dp + 3 ≤ n) (S : Sto) : run T w (n + 1) 14 [W.enc] S = some (.int W.size, S) := by
  obtain ⟨n, rfl⟩ : ∃ k, n = k + 1 := ⟨n - 1, by omega⟩
  refine run_rts t14 rfl rfl ?_
  have a1 := need_ok (w := w) (n := n) t0 t3 t2 t4 (S := S) (p := .str "writing") (enc_T W) gW (by omega)
  have a2 := signs_ok (w := w) W (n + 1) S (by omega)
  simp only [b_signs_of, List.map_cons, List.map_nil, Nat.sub_self, List.replicate_zero, List.cons_append, List.nil_append, exs, ex, ev, evs, List.getElem?_cons_zero, a1, a2]
def usC : E := (.comp false (.n 2) (.sl (.v 0) (.c (.int 1)) (.c .non)) (.call 26 (.cons (.v 2) (.cons (.v 1) .nil))))
theorem t26 : T[26]? = some ⟨2, 3, (.cons (.ifs (.cmp .In (.ix (.v 0) (.c (.int 0))) (.tup (.cons (.c (.str "bound")) (.cons (.c (.str "free")) .nil)))) (.cons (.ret (.bi .int (.cons (.cmp .Eq (.v 0) (.tup (.cons (.c (.str "free")) (.cons (.v 1) .nil)))) .nil))) .nil) .nil) (.cons (.ret (.bi .sum (.cons usC .nil))) .nil))⟩ := rfl
theorem us_leaf {x : Str} {m : Cn} (gx : nmOk x = true) (gm : GoodC m) (hm : (∃ i, m = .bd i) ∨ ∃ y, m = .fr y) (S : Sto) : run T w (n + 1) 26 [m.enc, .str x] S = some (.int (Cn.uses x m), S) := by
  have e := cn_eq (a := m) (b := .fr x) gm (fun y hy => by rw [List.mem_singleton.mp hy]; exact gx) (by rcases hm with ⟨i, rfl⟩ | ⟨y, rfl⟩ <;> exact Nat.zero_le _) (Nat.zero_le _)
  have e' : cmpD .Eq m.enc (.tup [.str "free", .str x]) = some (decide (m = .fr x)) := e
  have i0 : ∃ t, ixD m.enc (.int 0) = some (.str t) ∧ cmpD .In (.str t) (.tup [.str "bound", .str "free"]) = some true := by
    rcases hm with ⟨i, rfl⟩ | ⟨y, rfl⟩
    · exact ⟨"bound", rfl, in_b⟩
    · exact ⟨"free", rfl, in_f⟩
  obtain ⟨t, i1, i2⟩ := i0
  have sc : see S m.enc = some m.enc := by cases m <;> rfl
  have eu : biD .int [.bl (decide (m = .fr x))] = some (.int (Cn.uses x m)) := by
    rcases hm with ⟨i, rfl⟩ | ⟨y, rfl⟩
    · rfl
    · by_cases h : y = x
      · subst h
        simp [biD, Cn.uses]
      · simp [biD, Cn.uses, h]
  refine run_rts t26 rfl rfl ?_
  generalize decide (m = .fr x) = c at *
  generalize m.enc = d at *
  simp only [List.map_cons, List.map_nil, Nat.reduceSub, List.replicate_succ, List.replicate_zero, List.cons_append, List.nil_append, exs, ex, ev, evs, seeAll, see_str, see_tup, see_bl, sc, sm_2, if_true, List.getElem?_cons_zero, List.getElem?_cons_succ, i1, i2, e', eu]
theorem uses_ok {x : Str} (gx : nmOk x = true) {S : Sto} : ∀ (m : Cn) (n : Nat), GoodC m → m.dp + 1 ≤ n → run T w n 26 [m.enc, .str x] S = some (.int (Cn.uses x m), S)
  | .bd i, n, gm, hn => by
    obtain ⟨n, rfl⟩ : ∃ k, n = k + 1 := ⟨n - 1, by omega⟩
    exact us_leaf gx gm (.inl ⟨i, rfl⟩) S
  | .fr y, n, gm, hn => by
    obtain ⟨n, rfl⟩ : ∃ k, n = k + 1 := ⟨n - 1, by omega⟩
    exact us_leaf gx gm (.inr ⟨y, rfl⟩) S
  | .of b, n, gm, hn => by
    simp only [Cn.dp] at hn
    obtain ⟨n, rfl⟩ : ∃ k, n = k + 1 := ⟨n - 1, by omega⟩
    have ih := uses_ok gx (S := S) b n gm (by omega)
    have c : ev (run T w n) usC [some (.tup [.str "of", b.enc]), some (.str x), none] S = some (.lst [.int (Cn.uses x b)], S) := by
      have hs : ev (run T w n) (.sl (.v 0) (.c (.int 1)) (.c .non)) [some (.tup [.str "of", b.enc]), some (.str x), none] S = some (.tup [b.enc], S) := rfl
      refine ev_comp1 hs rfl ?_
      simp only [ev, evs, List.set_cons_succ, List.set_cons_zero, List.getElem?_cons_zero, List.getElem?_cons_succ, ih]
    have i0 : ixD (.tup [.str "of", b.enc]) (.int 0) = some (.str "of") := rfl
    have zs : biD .sum [.lst [.int (Cn.uses x b)]] = some (.int (Cn.uses x b)) := by simp [biD, ints?]
    refine run_rts t26 rfl rfl ?_
    simp only [Cn.enc, Cn.uses, List.map_cons, List.map_nil, Nat.reduceSub, List.replicate_succ, List.replicate_zero, List.cons_append, List.nil_append, exs, ex, ev, evs, see_str, see_tup, see_lst, seeAll, sm_2, if_true, List.getElem?_cons_zero, List.getElem?_cons_succ, i0, in_o, c, zs]
  | .to a b, n, gm, hn => by
    simp only [Cn.dp] at hn
    obtain ⟨n, rfl⟩ : ∃ k, n = k + 1 := ⟨n - 1, by omega⟩
    have ih1 := uses_ok gx (S := S) a n (fun y hy => gm y (List.mem_append_left _ hy)) (by omega)
    have ih2 := uses_ok gx (S := S) b n (fun y hy => gm y (List.mem_append_right _ hy)) (by omega)
    have c : ev (run T w n) usC [some (.tup [.str "to", a.enc, b.enc]), some (.str x), none] S = some (.lst [.int (Cn.uses x a), .int (Cn.uses x b)], S) := by
      have hs : ev (run T w n) (.sl (.v 0) (.c (.int 1)) (.c .non)) [some (.tup [.str "to", a.enc, b.enc]), some (.str x), none] S = some (.tup [a.enc, b.enc], S) := rfl
      refine ev_comp2 hs rfl ?_ ?_
      · simp only [ev, evs, List.set_cons_succ, List.set_cons_zero, List.getElem?_cons_zero, List.getElem?_cons_succ, ih1]
      · simp only [ev, evs, List.set_cons_succ, List.set_cons_zero, List.getElem?_cons_zero, List.getElem?_cons_succ, ih2]
    have i0 : ixD (.tup [.str "to", a.enc, b.enc]) (.int 0) = some (.str "to") := rfl
    have zs : biD .sum [.lst [.int (Cn.uses x a), .int (Cn.uses x b)]] = some (.int (Cn.uses x a + Cn.uses x b : Nat)) := by simp [biD, ints?]
    refine run_rts t26 rfl rfl ?_
    simp only [Cn.enc, Cn.uses, List.map_cons, List.map_nil, Nat.reduceSub, List.replicate_succ, List.replicate_zero, List.cons_append, List.nil_append, exs, ex, ev, evs, see_str, see_tup, see_lst, seeAll, sm_2, if_true, List.getElem?_cons_zero, List.getElem?_cons_succ, i0, in_t, c, zs]
def atC : E := (.compI false (.n 1) (.v 0) (.not (.call 27 (.cons (.v 1) .nil))) (.v 1))
theorem t27 : T[27]? = some ⟨1, 2, (.cons (.ret (.or (.isi (.v 0) [.str]) (.and (.isi (.v 0) [.tuple]) (.cmp .Eq atC (.lst .nil))))) .nil)⟩ := rfl
theorem at_str (x : Str) (n : Nat) (S : Sto) (hn : 1 ≤ n) : run T w n 27 [.str x] S = some (.bl true, S) := by
  obtain ⟨n, rfl⟩ : ∃ k, n = k + 1 := ⟨n - 1, by omega⟩
  refine run_rts t27 rfl rfl ?_
  simp only [List.map_cons, List.map_nil, Nat.reduceSub, List.replicate_succ, List.replicate_zero, List.cons_append, List.nil_append, exs, ex, ev, List.getElem?_cons_zero, see_str, isStr_nm]
theorem at_tup {l : List D} {S : Sto} (hl : l.length ≤ 10) (h : ∀ d ∈ l, run T w n 27 [d] S = some (.bl true, S)) : run T w (n + 1) 27 [.tup l] S = some (.bl true, S) := by
  have q := ev_filter (F := run T w n) (i := 1) (it := .v 0) (cond := .not (.call 27 (.cons (.v 1) .nil))) (ρ := [some (.tup l), none]) (S := S) (S1 := S) (x := .tup l) (xs := l) (p := fun _ => false) rfl rfl (by simp) (fun d hd => by
    simp only [ev, evs, List.set_cons_succ, List.set_cons_zero, List.getElem?_cons_zero, List.getElem?_cons_succ, h d hd, Bool.not_true]) (by omega)
  have e : l.filter (fun _ => false) = [] := List.filter_eq_nil_iff.mpr fun _ _ => by simp
  rw [e] at q
  have q' : ev (run T w n) atC [some (.tup l), none] S = some (.lst [], S) := q
  have z : cmpD .Eq (.lst []) (.lst []) = some true := by
    have e0 : cmpD .Eq (.lst []) (.lst []) = if D.ok (.lst []) && D.ok (.lst []) then some (D.eqv (.lst []) (.lst [])) else none := rfl
    rw [e0, ok_nil, eqv_nil]
    rfl
  have z2 : [Ty.tuple].any (isTy (.tup l)) = true := rfl
  have zs : small ([] : List D).length = true := rfl
  refine run_rts t27 rfl rfl ?_
  simp only [List.map_cons, List.map_nil, Nat.reduceSub, List.replicate_succ, List.replicate_zero, List.cons_append, List.nil_append, exs, ex, ev, evs, List.getElem?_cons_zero, see_tup, see_lst, isStr_tup, z2, q', zs, if_true, z]
theorem areTup_ok : ∀ (W : Wr) (n : Nat) (S : Sto), W.dp + 1 ≤ n → run T w n 27 [W.enc] S = some (.bl true, S)
  | .nm x, n, S, hn => at_str x n S (by omega)
  | .of x b, n, S, hn => by
    simp only [Wr.dp] at hn
    obtain ⟨n, rfl⟩ : ∃ k, n = k + 1 := ⟨n - 1, by omega⟩
    have ih := areTup_ok b n S (by omega)
    refine at_tup (by simp) fun d hd => ?_
    simp only [List.mem_cons, List.not_mem_nil, or_false] at hd
    rcases hd with rfl | rfl | rfl
    · exact at_str _ _ _ (by omega)
    · exact at_str _ _ _ (by omega)
    · exact ih
  | .to a b, n, S, hn => by
    simp only [Wr.dp] at hn
    obtain ⟨n, rfl⟩ : ∃ k, n = k + 1 := ⟨n - 1, by omega⟩
    have ih1 := areTup_ok a n S (by omega)
    have ih2 := areTup_ok b n S (by omega)
    refine at_tup (by simp) fun d hd => ?_
    simp only [List.mem_cons, List.not_mem_nil, or_false] at hd
    rcases hd with rfl | rfl | rfl
    · exact at_str _ _ _ (by omega)
    · exact ih1
    · exact ih2
end Lk06

set_option Elab.async false
set_option linter.all false
set_option maxRecDepth 100000
set_option maxHeartbeats 4000000
namespace Lk06
open PySem Iv
variable {w n : Nat}
theorem t15 : T[15]? = some ⟨1, 1, freeNmB 4 7⟩ := rfl
theorem t22 : T[22]? = some ⟨1, 2, listedB 22⟩ := rfl
theorem t25 : T[25]? = some ⟨1, 5, scannedB⟩ := rfl
theorem free {w : Nat} : Free T w 15 := free_of t0 t3 t2 t4 t6 t7 t15
theorem good_fr {W : Wr} (h : Good W) : ∀ x ∈ W.fr, nmOk x = true := fun x hx => h x (fr_names W x hx)
theorem alike_enc : ∀ W : Wr, PySem.W.alike W.enc.py W.enc.py = true
  | .nm x => by simp [Wr.enc, D.py, PySem.W.alike]
  | .of x b => by simp [Wr.enc, D.py, D.pys, PySem.W.alike, PySem.W.alikeAll, alike_enc b]
  | .to a b => by simp [Wr.enc, D.py, D.pys, PySem.W.alike, PySem.W.alikeAll, alike_enc a, alike_enc b]
theorem ok_enc {W : Wr} (h : Good W) (hd : W.dp ≤ 150) : D.ok W.enc = true := by
  obtain ⟨j1, j2⟩ := enc_lay W h
  simp only [D.ok, W.pure_enc, j1, Bool.and_self, Bool.true_and]
  exact decide_eq_true (by omega)
theorem ne_enc {W : Wr} (h : Good W) (hd : W.dp ≤ 150) : cmpD .NotEq W.enc W.enc = some false := by
  have e : D.eqv W.enc W.enc = true := PySem.W.eqv_refl_alike _ (alike_enc W)
  cases W with
  | nm x => exact congrArg (fun b => some (!b)) (decide_eq_true rfl)
  | of x b =>
    show (if _ then _ else _) = _
    rw [if_pos (by rw [ok_enc h hd]; rfl)]
    exact congrArg (fun b => some (!b)) e
  | to a b =>
    show (if _ then _ else _) = _
    rw [if_pos (by rw [ok_enc h hd]; rfl)]
    exact congrArg (fun b => some (!b)) e
theorem see_enc (W : Wr) (S : Sto) : see S W.enc = some W.enc := by cases W <;> rfl
theorem see_cn (m : Cn) (S : Sto) : see S m.enc = some m.enc := by cases m <;> rfl
theorem ne_strsL {a : List Str} (ha : ∀ x ∈ a, nmOk x = true) : cmpD .NotEq (.lst (a.map D.str)) (.lst (a.map D.str)) = some false := by
  show (if _ then _ else _) = _
  rw [if_pos (by rw [okL_strs ha]; rfl)]
  have e : D.eqv (.lst (a.map D.str)) (.lst (a.map D.str)) = true := by simp only [D.eqv, D.py, pys_strs, PyData.eqv, eqvAll_strs, decide_true]
  rw [e]
  rfl
theorem filter_strs (p : D → Bool) (l : List Str) : (l.map D.str).filter p = (l.filter fun x => p (.str x)).map D.str := by
  induction l with
  | nil => rfl
  | cons x l ih =>
    rw [List.map_cons, List.filter_cons, List.filter_cons, ih]
    split <;> rfl
theorem strs_map : ∀ l : List Str, strs? (l.map D.str) = some l
  | [] => rfl
  | x :: l => by simp [strs?, strs_map l]
theorem goodc_cnt {W : Wr} (g : Good W) : GoodC (cnt W []) := fun y hy => g y (cnt_frees W [] y hy).1
def p1 : St := (.asg (.n 3) (.call 17 (.cons (.v 0) (.cons (.v 1) (.cons (.v 2) .nil)))))
def p2 : St := (.par [4, 5] (.cons (.call 23 (.cons (.v 0) (.cons (.lst .nil) .nil))) (.cons (.call 23 (.cons (.v 2) (.cons (.lst .nil) .nil))) .nil)))
def p3 : St := (.ifs (.or (.cmp .IsNot (.call 3 (.cons (.v 3) .nil)) (.c (.bl true))) (.or (.not (.call 27 (.cons (.v 3) .nil))) (.cmp .NotEq (.call 23 (.cons (.v 3) (.cons (.lst .nil) .nil))) (.call 24 (.cons (.v 4) (.cons (.v 1) (.cons (.v 5) .nil))))))) (.cons (.ret (.c (.bl false))) .nil) .nil)
def p4 : St := (.asg (.n 6) (.call 26 (.cons (.v 4) (.cons (.v 1) .nil))))
def p5 : St := (.ifs (.cmp .NotEq (.call 14 (.cons (.v 3) .nil)) (.op .Add (.call 14 (.cons (.v 0) .nil)) (.op .Mult (.v 6) (.op .Sub (.call 14 (.cons (.v 2) .nil)) (.c (.int 1)))))) (.cons (.ret (.c (.bl false))) .nil) .nil)
def frE : E := (.compI false (.n 8) (.call 25 (.cons (.v 0) .nil)) (.cmp .NotEq (.v 8) (.v 1)) (.v 8))
def p6 : St := (.asg (.n 7) frE)
def ssE : E := (.op .Add (.v 7) (.ite (.cmp .Gt (.v 6) (.c (.int 0))) (.call 25 (.cons (.v 2) .nil)) (.lst .nil)))
def p7 : St := (.ifs (.cmp .NotEq (.bi .sorted (.cons (.call 15 (.cons (.v 3) .nil)) .nil)) (.sset ssE)) (.cons (.ret (.c (.bl false))) .nil) .nil)
def p8 : St := (.ifs (.cmp .NotEq (.callK 17 .nil (.cons (.call 22 (.cons (.v 2) .nil)) (.cons (.v 1) (.cons (.call 22 (.cons (.v 0) .nil)) Es.nil))) [2, 1, 0]) (.v 3)) (.cons (.ret (.c (.bl false))) .nil) .nil)
def p9 : St := (.ret (.or (.cmp .Gt (.v 6) (.c (.int 0))) (.cmp .Is (.call 16 (.cons (.v 3) (.cons (.v 0) .nil))) (.c (.bl true)))))
theorem t28 : T[28]? = some ⟨3, 9, .cons p1 (.cons p2 (.cons p3 (.cons p4 (.cons p5 (.cons p6 (.cons p7 (.cons p8 (.cons p9 .nil))))))))⟩ := rfl
theorem put_right {W O : Wr} {x : Str} (gW : Good W) (gx : nmOk x = true) (gO : Good O) (sW : W.size ≤ 66) (sO : O.size ≤ 15) (dW : W.dp ≤ 66) (dO : O.dp ≤ 15) (hn : 120 ≤ n) (hn2 : n ≤ 900) (hw : 10000 ≤ w) (S : Sto) :
    run T w (n + 1) 28 [W.enc, .str x, O.enc] S = some (.bl true, S) := by
  obtain ⟨n, rfl⟩ : ∃ m, n = m + 1 := ⟨n - 1, by omega⟩
  obtain ⟨K, pk, ek⟩ := put_ok (w := w) (n := n) gW gx gO (by omega) (by omega) (by omega) S
  obtain ⟨gK, dK, sK, cK, _⟩ := pk
  have hKs : K.size ≤ 66 * 15 := Nat.le_trans sK (Nat.mul_le_mul sW sO)
  have hKf := fr_len K
  have e1 := ek W.enc O.enc (enc_T W) (enc_T O)
  have e2 := ek W.encL O.encL (enc_L W) (enc_L O)
  have e3 := counted_ok (w := w) W (n + 1) [] S (by omega) (by simp only [List.length_nil]; omega)
  have e4 := counted_ok (w := w) O (n + 1) [] S (by omega) (by simp only [List.length_nil]; omega)
  have e5 := counted_ok (w := w) K (n + 1) [] S (by omega) (by simp only [List.length_nil]; omega)
  have e6 := isWr_ok (w := w) t0 t3 (S := S) (enc_T K) gK (n + 1) (by omega)
  have e7 := areTup_ok (w := w) K (n + 1) S (by omega)
  have cdW := cnt_dp W []
  have cdO := cnt_dp O []
  have cdK := cnt_dp K []
  have gcW := goodc_cnt gW
  have gcO := goodc_cnt gO
  have gcK := goodc_cnt gK
  have e8 := lp_ok (w := w) (o := cnt O []) gx (S := S) (cnt W []) (n + 1) gcW (by omega)
  rw [← cK] at e8
  have c1 := cn_ne gcK gcK (by omega) (by omega)
  rw [decide_eq_true rfl] at c1
  have e9 := uses_ok (w := w) gx (S := S) (cnt W []) (n + 1) gcW (by omega)
  have e10 := signsOf_ok (w := w) (n := n) gK (by omega) S
  have e11 := signsOf_ok (w := w) (n := n) gW (by omega) S
  have e12 := signsOf_ok (w := w) (n := n) gO (by omega) S
  have usz : (K.size : Int) = W.size + (Cn.uses x (cnt W []) : Nat) * ((O.size : Int) - 1) := by
    have q := congrArg Cn.sz cK
    rw [sub_sz, cnt_sz, cnt_sz, cnt_sz] at q
    have := O.size_pos
    rw [q]
    rw [Int.natCast_add, Int.natCast_mul, Int.natCast_sub (by omega)]
    rfl
  have ule := uses_le x (cnt W [])
  rw [cnt_sz] at ule
  have upos := uses_pos x (cnt W [])
  have e13 := scanned_ok (n := n) t25 gW (by omega) (by omega) hw S
  have e14 := scanned_ok (n := n) t25 gO (by omega) (by omega) hw S
  have e15 := (free (w := w)).ok (n + 1) K.enc K S (enc_T K) gK (by omega) (by omega)
  have e16 := listed_ok (w := w) t22 (S := S) W (n + 1) (by omega)
  have e17 := listed_ok (w := w) t22 (S := S) O (n + 1) (by omega)
  have c2 := ne_enc gK (by omega)
  have e18 := alike_ok (w := w) (n := n) (enc_T K) (enc_T W) gK gW (by omega) (by omega) (by omega) S
  generalize hu : Cn.uses x (cnt W []) = u at *
  have e3' : run T w (n + 1) 23 [W.enc, .lst []] S = some ((cnt W []).enc, S) := e3
  have e4' : run T w (n + 1) 23 [O.enc, .lst []] S = some ((cnt O []).enc, S) := e4
  have e5' : run T w (n + 1) 23 [K.enc, .lst []] S = some ((cnt K []).enc, S) := e5
  have sm0 : small ([] : List D).length = true := rfl
  -- the free names
  have hfr : (sortS K.fr) = sortS (fresh1 [] ((W.fr.filter fun y => decide (y ≠ x)) ++ if 0 < u then O.fr else [])) := by
    refine sortS_perm (same_perm (fr_nodup K) (fresh_nodup _) fun y => ?_)
    rw [mem_fresh, List.mem_append, List.mem_filter, decide_eq_true_eq]
    have h1 : ∀ (V : Wr) (y : Str), y ∈ V.fr ↔ y ∈ (cnt V []).frees := fun V y => by rw [mem_fr, ← cnt_frees_iff]
    rw [h1 K y, cK, sub_iff, h1 W y, ← upos]
    by_cases hp : 0 < u
    · rw [if_pos hp, h1 O y]
      simp only [hp, true_and]
    · rw [if_neg hp]
      simp only [hp, false_and, List.not_mem_nil]
  have good1 : ∀ y ∈ sortS K.fr, nmOk y = true := fun y hy => good_fr gK y ((sortS_is K.fr).mem_iff.mp hy)
  have c3 := ne_strsL good1
  have s1 : ex (run T w (n + 1)) w p1 [some W.enc, some (.str x), some O.enc, none, none, none, none, none, none] S = some (.nx [some W.enc, some (.str x), some O.enc, some K.enc, none, none, none, none, none], S) := by
    simp only [p1, ex, ev, evs, List.getElem?_cons_zero, List.getElem?_cons_succ, e1, setT, List.set_cons_succ, List.set_cons_zero]
  have s2 : ex (run T w (n + 1)) w p2 [some W.enc, some (.str x), some O.enc, some K.enc, none, none, none, none, none] S = some (.nx [some W.enc, some (.str x), some O.enc, some K.enc, some (cnt W []).enc, some (cnt O []).enc, none, none, none], S) := by
    simp only [p2, ex, ev, evs, List.getElem?_cons_zero, List.getElem?_cons_succ, sm0, if_true, e3', e4']
    rfl
  generalize hm : (cnt W []).enc = m at *
  generalize hi : (cnt O []).enc = i at *
  have s3 : ex (run T w (n + 1)) w p3 [some W.enc, some (.str x), some O.enc, some K.enc, some m, some i, none, none, none] S = some (.nx [some W.enc, some (.str x), some O.enc, some K.enc, some m, some i, none, none, none], S) := by
    have z : cmpD .IsNot (.bl true) (.bl true) = some false := rfl
    simp only [p3, ex, exs, ev, evs, List.getElem?_cons_zero, List.getElem?_cons_succ, sm0, if_true, e6, see_bl, z, e7, Bool.not_true, e5', e8, see_cn, c1]
  have s4 : ex (run T w (n + 1)) w p4 [some W.enc, some (.str x), some O.enc, some K.enc, some m, some i, none, none, none] S = some (.nx [some W.enc, some (.str x), some O.enc, some K.enc, some m, some i, some (.int u), none, none], S) := by
    simp only [p4, ex, exs, ev, evs, List.getElem?_cons_zero, List.getElem?_cons_succ, e9, setT, List.set_cons_succ, List.set_cons_zero]
  have s5 : ex (run T w (n + 1)) w p5 [some W.enc, some (.str x), some O.enc, some K.enc, some m, some i, some (.int u), none, none] S = some (.nx [some W.enc, some (.str x), some O.enc, some K.enc, some m, some i, some (.int u), none, none], S) := by
    have z1 : opD .Mult (.int u) (.int ((O.size : Int) - 1)) = some (.int (u * ((O.size : Int) - 1))) := op_mul (by omega)
    have z2 : cmpD .NotEq (.int K.size) (.int (W.size + u * ((O.size : Int) - 1))) = some false := congrArg (fun b => some (!b)) (decide_eq_true usz)
    simp only [p5, ex, exs, ev, evs, List.getElem?_cons_zero, List.getElem?_cons_succ, e10, e11, e12, see_int, op_sub, z1, op_add, z2]
  have s6 : ex (run T w (n + 1)) w p6 [some W.enc, some (.str x), some O.enc, some K.enc, some m, some i, some (.int u), none, none] S = some (.nx [some W.enc, some (.str x), some O.enc, some K.enc, some m, some i, some (.int u), some (.lst ((W.fr.filter fun y => decide (y ≠ x)).map D.str)), none], S) := by
    have hlW := fr_len W
    have q := ev_filter (F := run T w (n + 1)) (i := 8) (it := .call 25 (.cons (.v 0) .nil)) (cond := (.cmp .NotEq (.v 8) (.v 1))) (ρ := [some W.enc, some (.str x), some O.enc, some K.enc, some m, some i, some (.int u), none, none]) (S := S) (S1 := S) (x := .lst (W.fr.map D.str)) (xs := W.fr.map D.str) (p := fun d => match d with
      | .str y => decide (y ≠ x)
      | _ => false) (by simp only [ev, evs, List.getElem?_cons_zero, e13]) rfl (Nat.lt_succ_self 8) (fun d hd => by
        obtain ⟨y, hy, rfl⟩ := List.mem_map.mp hd
        have z : cmpD .NotEq (.str y) (.str x) = some (decide (y ≠ x)) := by
          show some (!decide (y = x)) = _
          rw [← decide_not]
        simp only [ev, List.set_cons_succ, List.set_cons_zero, List.getElem?_cons_zero, List.getElem?_cons_succ, see_str, z]) (by rw [List.length_map]; omega)
    rw [filter_strs] at q
    have q' : ev (run T w (n + 1)) frE [some W.enc, some (.str x), some O.enc, some K.enc, some m, some i, some (.int u), none, none] S = _ := q
    simp only [p6, ex, q', setT, List.set_cons_succ, List.set_cons_zero]
  generalize hfl : (W.fr.filter fun y => decide (y ≠ x)) = fl at *
  have lfl : fl.length ≤ 66 := by rw [← hfl]; have := List.length_filter_le (fun y => decide (y ≠ x)) W.fr; have := fr_len W; omega
  have s7 : ex (run T w (n + 1)) w p7 [some W.enc, some (.str x), some O.enc, some K.enc, some m, some i, some (.int u), some (.lst (fl.map D.str)), none] S = some (.nx [some W.enc, some (.str x), some O.enc, some K.enc, some m, some i, some (.int u), some (.lst (fl.map D.str)), none], S) := by
    have q1 : ev (run T w (n + 1)) (.bi .sorted (.cons (.call 15 (.cons (.v 3) .nil)) .nil)) [some W.enc, some (.str x), some O.enc, some K.enc, some m, some i, some (.int u), some (.lst (fl.map D.str)), none] S = some (.lst ((sortS K.fr).map D.str), S) := by
      have z : biD .sorted [.tup (K.fr.map D.str)] = some (.lst ((sortS K.fr).map D.str)) := by
        simp only [biD, strs_map]
        rw [if_pos (decide_eq_true (by omega))]
      simp only [ev, evs, List.getElem?_cons_zero, List.getElem?_cons_succ, e15, seeAll, see_tup, z]
    have q2 : ev (run T w (n + 1)) ssE [some W.enc, some (.str x), some O.enc, some K.enc, some m, some i, some (.int u), some (.lst (fl.map D.str)), none] S = some (.lst ((fl ++ if 0 < u then O.fr else []).map D.str), S) := by
      have lO := fr_len O
      by_cases hp : 0 < u
      · have z1 : cmpD .Gt (.int u) (.int 0) = some true := congrArg some (decide_eq_true (by omega))
        have z2 : opD .Add (.lst (fl.map D.str)) (.lst (O.fr.map D.str)) = some (.lst ((fl ++ O.fr).map D.str)) := by
          have sm : small ((fl.map D.str).length + (O.fr.map D.str).length) = true := decide_eq_true (by rw [List.length_map, List.length_map]; omega)
          show (if _ then _ else _) = _
          rw [if_pos sm, List.map_append]
        rw [if_pos hp]
        simp only [ssE, ev, evs, List.getElem?_cons_zero, List.getElem?_cons_succ, see_int, z1, e14, see_lst, z2]
      · have z1 : cmpD .Gt (.int u) (.int 0) = some false := congrArg some (decide_eq_false (by omega))
        have z2 : opD .Add (.lst (fl.map D.str)) (.lst []) = some (.lst (fl.map D.str)) := by
          have sm : small ((fl.map D.str).length + ([] : List D).length) = true := decide_eq_true (by rw [List.length_map]; simp only [List.length_nil]; omega)
          show (if _ then _ else _) = _
          rw [if_pos sm, List.append_nil]
        rw [if_neg hp, List.append_nil]
        simp only [ssE, ev, evs, List.getElem?_cons_zero, List.getElem?_cons_succ, see_int, z1, sm0, if_true, see_lst, z2]
    have q3 : ev (run T w (n + 1)) (.sset ssE) [some W.enc, some (.str x), some O.enc, some K.enc, some m, some i, some (.int u), some (.lst (fl.map D.str)), none] S = some (.lst ((sortS K.fr).map D.str), S) := by
      have hl : (fl ++ if 0 < u then O.fr else []).length ≤ 1000 := by
        have lO := fr_len O
        rw [List.length_append]
        split
        · omega
        · simp only [List.length_nil]; omega
      rw [ev, q2]
      simp only [see_lst, strs_map]
      rw [if_pos (decide_eq_true hl), ← hfr]
    rw [p7, ex, ev]
    simp only [q1, q3, see_lst, c3]
    rfl
  have s8 : ex (run T w (n + 1)) w p8 [some W.enc, some (.str x), some O.enc, some K.enc, some m, some i, some (.int u), some (.lst (fl.map D.str)), none] S = some (.nx [some W.enc, some (.str x), some O.enc, some K.enc, some m, some i, some (.int u), some (.lst (fl.map D.str)), none], S) := by
    simp only [p8, ex, exs, ev, evs, List.getElem?_cons_zero, List.getElem?_cons_succ, e16, e17, prm, List.nil_append, List.filterMap_cons, List.filterMap_nil, e2, see_enc, c2]
  have s9 : ex (run T w (n + 1)) w p9 [some W.enc, some (.str x), some O.enc, some K.enc, some m, some i, some (.int u), some (.lst (fl.map D.str)), none] S = some (.rt (.bl true), S) := by
    by_cases hp : 0 < u
    · have z1 : cmpD .Gt (.int u) (.int 0) = some true := congrArg some (decide_eq_true (by omega))
      simp only [p9, ex, ev, List.getElem?_cons_zero, List.getElem?_cons_succ, see_int, z1]
    · have z1 : cmpD .Gt (.int u) (.int 0) = some false := congrArg some (decide_eq_false (by omega))
      have hx : x ∉ (cnt W []).frees := fun z => hp (upos.mpr z)
      have hcc : cnt K [] = cnt W [] := by rw [cK, sub_none x _ _ hx]
      rw [decide_eq_true hcc] at e18
      have z2 : cmpD .Is (.bl true) (.bl true) = some true := rfl
      simp only [p9, ex, ev, evs, List.getElem?_cons_zero, List.getElem?_cons_succ, see_int, z1, e18, see_bl, z2]
  refine run_rts t28 rfl rfl ?_
  show exs _ _ (.cons p1 (.cons p2 (.cons p3 (.cons p4 (.cons p5 (.cons p6 (.cons p7 (.cons p8 (.cons p9 .nil))))))))) [some W.enc, some (.str x), some O.enc, none, none, none, none, none, none] S = _
  simp only [exs, s1, s2, s3, s4, s5, s6, s7, s8, s9]
end Lk06

set_option Elab.async false
set_option linter.all false
set_option maxRecDepth 100000
set_option maxHeartbeats 4000000
namespace Lk06
open PySem Iv
variable {w n : Nat}
def wn (j : Nat) : Str := ("w" : Str) ++ Str.ofString (toString (j : Int))
theorem wn_small : ∀ j : Nat, j < 100 → small (("w" : Str).length + (Str.ofString (toString (j : Int))).length) = true := by decide +kernel
theorem wn_ok : ∀ j : Nat, j < 100 → nmOk (wn j) = true := by decide +kernel
theorem wn_inj0 : ∀ i < 100, ∀ j < 100, wn i = wn j → i = j := by decide +kernel
theorem pw_big {j : Nat} (h : j < 100) : ((j : Int)).natAbs < 2 ^ 1900 := by
  have h1 : (2 : Nat) ^ 7 ≤ 2 ^ 1900 := Nat.pow_le_pow_right (by decide) (by decide)
  have h2 : (2 : Nat) ^ 7 = 128 := by decide
  generalize (2 : Nat) ^ 1900 = M at *
  omega
theorem str_int {j : Nat} (h : j < 100) : biD .str [.int (j : Nat)] = some (.str (Str.ofString (toString (j : Int)))) := by
  show (if decide (((j : Int)).natAbs < 2 ^ 1900) = true then _ else _) = _
  rw [if_pos (decide_eq_true (pw_big h))]
theorem add_w {j : Nat} (h : j < 100) : opD .Add (.str "w") (.str (Str.ofString (toString (j : Int)))) = some (.str (wn j)) := by
  show (if _ then _ else _) = _
  rw [if_pos (wn_small j h)]
  rfl
def ta (at_ : Nat) : Wr → List Str → Wr
  | .nm x, ar => if x ∈ ar then .nm (wn (at_ + ar.length - 1 - ar.idxOf x)) else .nm x
  | .of x b, ar => .of (wn (at_ + ar.length)) (ta at_ b (x :: ar))
  | .to a b, ar => .to (ta at_ a ar) (ta at_ b ar)
def ws (at_ : Nat) : Nat → List Str
  | 0 => []
  | k + 1 => wn (at_ + k) :: ws at_ k
theorem mem_ws (at_ : Nat) : ∀ (k : Nat) (y : Str), y ∈ ws at_ k ↔ ∃ j, at_ ≤ j ∧ j < at_ + k ∧ y = wn j
  | 0, y => ⟨fun h => by simp [ws] at h, fun ⟨j, h1, h2, _⟩ => by omega⟩
  | k + 1, y => by
    rw [ws, List.mem_cons, mem_ws at_ k y]
    constructor
    · rintro (h | ⟨j, h1, h2, h3⟩)
      · exact ⟨at_ + k, by omega, by omega, h⟩
      · exact ⟨j, h1, by omega, h3⟩
    · rintro ⟨j, h1, h2, h3⟩
      by_cases e : j = at_ + k
      · exact .inl (by rw [h3, e])
      · exact .inr ⟨j, h1, by omega, h3⟩
theorem idx_ws (at_ : Nat) : ∀ (k i : Nat), i < k → at_ + k ≤ 100 → (ws at_ k).idxOf (wn (at_ + k - 1 - i)) = i
  | 0, i, h, _ => absurd h (Nat.not_lt_zero _)
  | k + 1, 0, _, _ => by
    rw [ws, show at_ + (k + 1) - 1 - 0 = at_ + k by omega, List.idxOf_cons_self]
  | k + 1, i + 1, h, hb => by
    have ne : wn (at_ + k) ≠ wn (at_ + (k + 1) - 1 - (i + 1)) := fun z => by
      have := wn_inj0 _ (by omega) _ (by omega) z
      omega
    have ih := idx_ws at_ k i (by omega) (by omega)
    have qb : (wn (at_ + k) == wn (at_ + (k + 1) - 1 - (i + 1))) = false := beq_eq_false_iff_ne.mpr ne
    rw [ws, List.idxOf_cons, qb, show at_ + (k + 1) - 1 - (i + 1) = at_ + k - 1 - i by omega, ih]
    rfl
theorem cnt_ta (at_ : Nat) : ∀ (W : Wr) (ar : List Str), (∀ y ∈ W.names, ∀ j < 100, y ≠ wn j) → at_ + ar.length + W.dp ≤ 99 → cnt (ta at_ W ar) (ws at_ ar.length) = cnt W ar
  | .nm x, ar, h, hb => by
    simp only [Wr.dp] at hb
    by_cases q : x ∈ ar
    · have hi := List.idxOf_lt_length_iff.mpr q
      simp only [ta, q, if_true, cnt]
      rw [if_pos ((mem_ws at_ _ _).mpr ⟨_, by omega, by omega, rfl⟩), idx_ws at_ ar.length (ar.idxOf x) hi (by omega)]
    · simp only [ta, q, if_false, cnt]
      rw [if_neg fun z => by
        obtain ⟨j, h1, h2, h3⟩ := (mem_ws at_ _ _).mp z
        exact h x List.mem_cons_self j (by omega) h3]
  | .of x b, ar, h, hb => by
    simp only [Wr.dp] at hb
    have ih := cnt_ta at_ b (x :: ar) (fun y hy => h y (List.mem_cons_of_mem _ hy)) (by simp only [List.length_cons]; omega)
    simp only [ta, cnt]
    exact congrArg Cn.of ih
  | .to a b, ar, h, hb => by
    simp only [Wr.dp] at hb
    have ih1 := cnt_ta at_ a ar (fun y hy => h y (List.mem_append_left _ hy)) (by omega)
    have ih2 := cnt_ta at_ b ar (fun y hy => h y (List.mem_append_right _ hy)) (by omega)
    simp only [ta, cnt, ih1, ih2]
theorem ta_ok (at_ : Nat) : ∀ (W : Wr) (ar : List Str), Good W → at_ + ar.length + W.dp ≤ 99 → Good (ta at_ W ar) ∧ (ta at_ W ar).size = W.size ∧ (ta at_ W ar).dp = W.dp
  | .nm x, ar, h, hb => by
    simp only [Wr.dp] at hb
    by_cases q : x ∈ ar
    · have hi := List.idxOf_lt_length_iff.mpr q
      simp only [ta, q, if_true]
      exact ⟨fun y hy => by rw [List.mem_singleton.mp hy]; exact wn_ok _ (by omega), rfl, rfl⟩
    · simp only [ta, q, if_false]
      exact ⟨h, by trivial, by trivial⟩
  | .of x b, ar, h, hb => by
    simp only [Wr.dp] at hb
    obtain ⟨i1, i2, i3⟩ := ta_ok at_ b (x :: ar) (fun y hy => h y (List.mem_cons_of_mem _ hy)) (by simp only [List.length_cons]; omega)
    refine ⟨fun y hy => ?_, by simp only [ta, Wr.size, i2], by simp only [ta, Wr.dp, i3]⟩
    rcases List.mem_cons.mp hy with rfl | hy
    · exact wn_ok _ (by omega)
    · exact i1 y hy
  | .to a b, ar, h, hb => by
    simp only [Wr.dp] at hb
    obtain ⟨i1, i2, i3⟩ := ta_ok at_ a ar (fun y hy => h y (List.mem_append_left _ hy)) (by omega)
    obtain ⟨j1, j2, j3⟩ := ta_ok at_ b ar (fun y hy => h y (List.mem_append_right _ hy)) (by omega)
    refine ⟨fun y hy => ?_, by simp only [ta, Wr.size, i2, j2], by simp only [ta, Wr.dp, i3, j3]⟩
    exact (List.mem_append.mp hy).elim (i1 y) (j1 y)
def anN : St := (.ret (.ite (.cmp .In (.v 0) (.v 1)) (.op .Add (.c (.str "w")) (.bi .str (.cons (.op .Sub (.op .Sub (.op .Add (.v 2) (.bi .len (.cons (.v 1) .nil))) (.c (.int 1))) (.meth .index (.v 1) (.cons (.v 0) .nil))) .nil))) (.v 0)))
def anO : St := (.ret (.tup (.cons (.c (.str "of")) (.cons (.op .Add (.c (.str "w")) (.bi .str (.cons (.op .Add (.v 2) (.bi .len (.cons (.v 1) .nil))) .nil))) (.cons (.call 30 (.cons (.ix (.v 0) (.c (.int 2))) (.cons (.op .Add (.lst (.cons (.ix (.v 0) (.c (.int 1))) .nil)) (.v 1)) (.cons (.v 2) .nil)))) .nil)))))
def anT : St := (.ret (.tup (.cons (.c (.str "to")) (.cons (.call 30 (.cons (.ix (.v 0) (.c (.int 1))) (.cons (.v 1) (.cons (.v 2) .nil)))) (.cons (.call 30 (.cons (.ix (.v 0) (.c (.int 2))) (.cons (.v 1) (.cons (.v 2) .nil)))) .nil)))))
theorem t30 : T[30]? = some ⟨3, 3, .cons (.ifs (.isi (.v 0) [.str]) (.cons anN .nil) .nil) (.cons (.ifs (.cmp .Eq (.ix (.v 0) (.c (.int 0))) (.c (.str "of"))) (.cons anO .nil) .nil) (.cons anT .nil))⟩ := rfl
theorem len_strs (ar : List Str) : biD .len [.lst (ar.map D.str)] = some (.int ar.length) := by
  show some (D.int ((ar.map D.str).length : Nat)) = _
  rw [List.length_map]
theorem anew_ok {at_ : Nat} : ∀ (W : Wr) (n : Nat) (ar : List Str) (S : Sto), W.dp + 1 ≤ n → at_ + ar.length + W.dp ≤ 99 → run T w n 30 [W.enc, .lst (ar.map D.str), .int at_] S = some ((ta at_ W ar).enc, S)
  | .nm x, n, ar, S, hn, hb => by
    obtain ⟨n, rfl⟩ : ∃ m, n = m + 1 := ⟨n - 1, by omega⟩
    simp only [Wr.dp] at hb
    refine run_rts t30 rfl rfl ?_
    have z1 := in_strs x ar
    have z3 := len_strs ar
    by_cases q : x ∈ ar
    · rw [decide_eq_true q] at z1
      have z2 := index_strs q S
      have hi := List.idxOf_lt_length_iff.mpr q
      have ej : (at_ : Int) + (ar.length : Nat) - 1 - (ar.idxOf x : Nat) = ((at_ + ar.length - 1 - ar.idxOf x : Nat) : Int) := by omega
      have z4 := str_int (j := at_ + ar.length - 1 - ar.idxOf x) (by omega)
      have z5 := add_w (j := at_ + ar.length - 1 - ar.idxOf x) (by omega)
      show exs _ _ _ [some (.str x), some (.lst (ar.map D.str)), some (.int at_)] S = _
      simp only [anN, exs, ex, ev, evs, seeAll, see_str, see_int, see_lst, List.getElem?_cons_zero, List.getElem?_cons_succ, isStr_nm, z1, z3, op_add, op_sub, z2, Option.isSome_some, if_true, ej, z4, z5, ta, q, Wr.enc]
    · rw [decide_eq_false q] at z1
      show exs _ _ _ [some (.str x), some (.lst (ar.map D.str)), some (.int at_)] S = _
      simp only [anN, exs, ex, ev, evs, see_str, see_lst, List.getElem?_cons_zero, List.getElem?_cons_succ, isStr_nm, z1, ta, q, if_false, Wr.enc]
  | .of x b, n, ar, S, hn, hb => by
    obtain ⟨n, rfl⟩ : ∃ m, n = m + 1 := ⟨n - 1, by omega⟩
    simp only [Wr.dp] at hn hb
    have ih := anew_ok (at_ := at_) b n (x :: ar) S (by omega) (by simp only [List.length_cons]; omega)
    obtain ⟨q1, q2, q3, q4, q5, q6, q7⟩ := sq3_T (.str "of") (.str x) b.enc
    have z3 := len_strs ar
    have ej : (at_ : Int) + (ar.length : Nat) = ((at_ + ar.length : Nat) : Int) := by omega
    have z4 := str_int (j := at_ + ar.length) (by omega)
    have z5 := add_w (j := at_ + ar.length) (by omega)
    have z6 := cat_strs x ar (by omega)
    refine run_rts t30 rfl rfl ?_
    show exs _ _ _ [some (.tup [.str "of", .str x, b.enc]), some (.lst (ar.map D.str)), some (.int at_)] S = _
    simp only [anO, exs, ex, ev, evs, seeAll, see_str, see_int, see_lst, see_tup, List.getElem?_cons_zero, List.getElem?_cons_succ, q2, q5, q6, q7, eq_of, z3, op_add, ej, z4, z5, sm_1, sm_3, if_true, z6, ih, ta, Wr.enc]
  | .to a b, n, ar, S, hn, hb => by
    obtain ⟨n, rfl⟩ : ∃ m, n = m + 1 := ⟨n - 1, by omega⟩
    simp only [Wr.dp] at hn hb
    have ih1 := anew_ok (at_ := at_) a n ar S (by omega) (by omega)
    have ih2 := anew_ok (at_ := at_) b n ar S (by omega) (by omega)
    obtain ⟨q1, q2, q3, q4, q5, q6, q7⟩ := sq3_T (.str "to") a.enc b.enc
    refine run_rts t30 rfl rfl ?_
    show exs _ _ _ [some (.tup [.str "to", a.enc, b.enc]), some (.lst (ar.map D.str)), some (.int at_)] S = _
    simp only [anT, exs, ex, ev, evs, seeAll, see_str, see_int, see_lst, see_tup, List.getElem?_cons_zero, List.getElem?_cons_succ, q2, q5, q6, q7, eq_to, sm_3, if_true, ih1, ih2, ta, Wr.enc]
theorem one_wr {c : List Int} {Ws : List Wr} {t h : Int} {R : Sto} (h1 : Ws ≠ []) (h2 : Ws.length ≤ 10) (t0 : 0 ≤ t) (t1 : t ≤ 1000000) (h0 : 0 ≤ h) :
    ∃ W t' h', W ∈ Ws ∧ t ≤ t' ∧ t' ≤ t + 1 ∧ 0 ≤ h' ∧ run T w (n + 2) 20 [.ref 0, .lst (Ws.map Wr.enc)] (some (shelf c t h) :: R) = some (W.enc, some (shelf c t' h') :: R) := by
  obtain ⟨j, x, t', h', hj, q1, q2, q3, e⟩ := one_ok (n := n) (dr (w := w) c) t20 (xs := Ws.map Wr.enc) (by simpa using h1) (by rw [List.length_map]; omega) (R := R) t0 t1 h0
  rw [List.getElem?_map] at hj
  cases hx2 : Ws[j]? with
  | none => rw [hx2] at hj; cases hj
  | some u =>
    rw [hx2] at hj
    cases hj
    exact ⟨u, t', h', List.mem_of_getElem? hx2, q1, q2, q3, e⟩
def caA : St := (.asg (.n 8) (.call 20 (.cons (.v 0) (.cons (.v 4) .nil))))
def caB : St := (.asg (.n 5) (.tup (.cons (.c (.str "of")) (.cons (.v 8) (.cons (.call 20 (.cons (.v 0) (.cons (.lst (.cons (.tup (.cons (.c (.str "to")) (.cons (.v 5) (.cons (.v 8) .nil)))) (.cons (.tup (.cons (.c (.str "to")) (.cons (.v 8) (.cons (.v 5) .nil)))) (.cons (.tup (.cons (.c (.str "to")) (.cons (.v 5) (.cons (.v 5) .nil)))) (.cons (.v 5) .nil))))) .nil))) .nil)))))
def caC : St := (.asg (.n 6) (.call 20 (.cons (.v 0) (.cons (.lst (.cons (.tup (.cons (.c (.str "to")) (.cons (.v 6) (.cons (.v 8) .nil)))) (.cons (.tup (.cons (.c (.str "of")) (.cons (.c (.str "q")) (.cons (.tup (.cons (.c (.str "to")) (.cons (.v 8) (.cons (.v 6) .nil)))) .nil)))) (.cons (.tup (.cons (.c (.str "to")) (.cons (.v 8) (.cons (.v 6) .nil)))) .nil)))) .nil))))
theorem q_ok : nmOk "q" = true := by decide +kernel
theorem ca_loop {c : List Int} {v1 v2 v3 : Option D} {lf : List Str} (hlf : lf ≠ []) (llf : lf.length ≤ 10) (glf : ∀ x ∈ lf, nmOk x = true) : ∀ (l : List D) (k : Nat) (I O : Wr) (t h : Int) (y7 y8 : Option D), Good I → Good O → I.size + 2 ≤ 3 * 2 ^ k → I.dp ≤ 2 * k → O.size ≤ 1 + 3 * k → O.dp ≤ 2 * k →
    0 ≤ t → t + 3 * l.length ≤ 1000000 → 0 ≤ h → ∃ I' O' t' h' y7' y8', Good I' ∧ Good O' ∧ I'.size + 2 ≤ 3 * 2 ^ (k + l.length) ∧ I'.dp ≤ 2 * (k + l.length) ∧ O'.size ≤ 1 + 3 * (k + l.length) ∧ O'.dp ≤ 2 * (k + l.length) ∧ t ≤ t' ∧ t' ≤ t + 3 * l.length ∧ 0 ≤ h' ∧
    forRun (.n 7) (fun ρ S => exs (run T w (n + 2)) w (.cons caA (.cons caB (.cons caC .nil))) ρ S) l [some (.ref 0), v1, v2, v3, some (.lst (lf.map D.str)), some I.enc, some O.enc, y7, y8] [some (shelf c t h)] =
      some (.nx [some (.ref 0), v1, v2, v3, some (.lst (lf.map D.str)), some I'.enc, some O'.enc, y7', y8'], [some (shelf c t' h')])
  | [], k, I, O, t, h, y7, y8, gI, gO, a1, a2, a3, a4, t0, t1, h0 => ⟨I, O, t, h, y7, y8, gI, gO, a1, a2, a3, a4, by omega, by omega, h0, rfl⟩
  | d :: l, k, I, O, t, h, y7, y8, gI, gO, a1, a2, a3, a4, t0, t1, h0 => by
    simp only [List.length_cons] at t1 ⊢
    obtain ⟨b, ta_, ha, hb, b1, b2, b3, e1⟩ := one_str (n := n) (dr (w := w) c) t20 hlf (by omega) (R := []) t0 (by omega) h0
    have gb := glf b hb
    obtain ⟨J, tb, hb', hJ, c1, c2, c3, e2⟩ := one_wr (w := w) (n := n) (c := c) (Ws := [.to I (.nm b), .to (.nm b) I, .to I I, I]) (R := []) (by simp) (by simp) (show 0 ≤ ta_ by omega) (by omega) b3
    obtain ⟨P, tc, hc, hP, d1, d2, d3, e3⟩ := one_wr (w := w) (n := n) (c := c) (Ws := [.to O (.nm b), .of "q" (.to (.nm b) O), .to (.nm b) O]) (R := []) (by simp) (by simp) (show 0 ≤ tb by omega) (by omega) c3
    have gnb : Good (.nm b) := fun y hy => by rw [List.mem_singleton.mp hy]; exact gb
    have gto : ∀ {A B : Wr}, Good A → Good B → Good (.to A B) := fun ga gb y hy => (List.mem_append.mp hy).elim (ga y) (gb y)
    have hsz := I.size_pos
    have hJ2 : Good J ∧ J.size ≤ 2 * I.size + 1 ∧ J.dp ≤ I.dp + 1 := by
      simp only [List.mem_cons, List.not_mem_nil, or_false] at hJ
      rcases hJ with rfl | rfl | rfl | rfl
      · exact ⟨gto gI gnb, by simp only [Wr.size]; omega, by simp only [Wr.dp]; omega⟩
      · exact ⟨gto gnb gI, by simp only [Wr.size]; omega, by simp only [Wr.dp]; omega⟩
      · exact ⟨gto gI gI, by simp only [Wr.size]; omega, by simp only [Wr.dp]; omega⟩
      · exact ⟨gI, by omega, by omega⟩
    have hP2 : Good P ∧ P.size ≤ O.size + 3 ∧ P.dp ≤ O.dp + 2 := by
      simp only [List.mem_cons, List.not_mem_nil, or_false] at hP
      rcases hP with rfl | rfl | rfl
      · exact ⟨gto gO gnb, by simp only [Wr.size]; omega, by simp only [Wr.dp]; omega⟩
      · refine ⟨fun y hy => ?_, by simp only [Wr.size]; omega, by simp only [Wr.dp]; omega⟩
        rcases List.mem_cons.mp hy with rfl | hy
        · exact q_ok
        · exact gto gnb gO y hy
      · exact ⟨gto gnb gO, by simp only [Wr.size]; omega, by simp only [Wr.dp]; omega⟩
    obtain ⟨gJ, sJ, dJ⟩ := hJ2
    obtain ⟨gP, sP, dP⟩ := hP2
    have gI' : Good (.of b J) := fun y hy => by
      rcases List.mem_cons.mp hy with rfl | hy
      · exact gb
      · exact gJ y hy
    have hpow : (2 : Nat) ^ (k + 1) = 2 * 2 ^ k := by rw [Nat.pow_succ, Nat.mul_comm]
    obtain ⟨I', O', t', h', y7', y8', r1, r2, r3, r4, r5, r6, r7, r8, r9, er⟩ := ca_loop (c := c) (v1 := v1) (v2 := v2) (v3 := v3) hlf llf glf l (k + 1) (.of b J) P tc hc (some d) (some (.str b)) gI' gP (by rw [hpow]; simp only [Wr.size]; omega) (by simp only [Wr.dp]; omega) (by omega) (by omega) (by omega) (by omega) d3
    rw [show k + 1 + l.length = k + (l.length + 1) by omega] at r3 r4 r5 r6
    refine ⟨I', O', t', h', y7', y8', r1, r2, r3, r4, r5, r6, by omega, by omega, r9, ?_⟩
    rw [forRun]
    generalize hL : D.lst (lf.map D.str) = L at *
    have s1 : ex (run T w (n + 2)) w caA [some (.ref 0), v1, v2, v3, some L, some I.enc, some O.enc, some d, y8] [some (shelf c t h)] = some (.nx [some (.ref 0), v1, v2, v3, some L, some I.enc, some O.enc, some d, some (.str b)], [some (shelf c ta_ ha)]) := by
      simp only [caA, ex, ev, evs, List.getElem?_cons_zero, List.getElem?_cons_succ, e1, setT, List.set_cons_succ, List.set_cons_zero]
    have sm4 : ∀ a b c d : D, small [a, b, c, d].length = true := fun _ _ _ _ => rfl
    have e2' : run T w (n + 2) 20 [.ref 0, .lst [.tup [.str "to", I.enc, .str b], .tup [.str "to", .str b, I.enc], .tup [.str "to", I.enc, I.enc], I.enc]] [some (shelf c ta_ ha)] = some (J.enc, [some (shelf c tb hb')]) := e2
    have e3' : run T w (n + 2) 20 [.ref 0, .lst [.tup [.str "to", O.enc, .str b], .tup [.str "of", .str "q", .tup [.str "to", .str b, O.enc]], .tup [.str "to", .str b, O.enc]]] [some (shelf c tb hb')] = some (P.enc, [some (shelf c tc hc)]) := e3
    have s2 : ex (run T w (n + 2)) w caB [some (.ref 0), v1, v2, v3, some L, some I.enc, some O.enc, some d, some (.str b)] [some (shelf c ta_ ha)] = some (.nx [some (.ref 0), v1, v2, v3, some L, some (Wr.of b J).enc, some O.enc, some d, some (.str b)], [some (shelf c tb hb')]) := by
      simp only [caB, ex, ev, evs, List.getElem?_cons_zero, List.getElem?_cons_succ, sm_3, sm4, if_true, e2', setT, List.set_cons_succ, List.set_cons_zero]
      rfl
    have s3 : ex (run T w (n + 2)) w caC [some (.ref 0), v1, v2, v3, some L, some (Wr.of b J).enc, some O.enc, some d, some (.str b)] [some (shelf c tb hb')] = some (.nx [some (.ref 0), v1, v2, v3, some L, some (Wr.of b J).enc, some P.enc, some d, some (.str b)], [some (shelf c tc hc)]) := by
      simp only [caC, ex, ev, evs, List.getElem?_cons_zero, List.getElem?_cons_succ, sm_3, if_true, e3', setT, List.set_cons_succ, List.set_cons_zero]
    simp only [setT, List.set_cons_succ, List.set_cons_zero, exs, s1, s2, s3]
    exact er
end Lk06

set_option Elab.async false
set_option linter.all false
set_option maxRecDepth 100000
set_option maxHeartbeats 4000000
namespace Lk06
open PySem Iv
variable {w n : Nat}
def ca1 : St := (.par [3, 4, 5] (.cons (.ix (.v 1) (.c (.int 0))) (.cons (.bi .list (.cons (.sl (.v 1) (.c (.int 1)) (.c .non)) .nil)) (.cons (.ix (.v 1) (.c (.int 0))) .nil))))
def ca2 : St := (.asg (.n 6) (.ix (.v 4) (.c (.int 0))))
def ca3 : St := (.for (.n 7) (.rng (.c (.int 0)) (.v 2)) (.cons caA (.cons caB (.cons caC .nil))))
def ca4 : St := (.ret (.tup (.cons (.v 5) (.cons (.v 3) (.cons (.v 6) .nil)))))
theorem t29 : T[29]? = some ⟨3, 9, .cons ca1 (.cons ca2 (.cons ca3 (.cons ca4 .nil)))⟩ := rfl
theorem ix0 (x : Str) (l : List Str) : ixD (.lst ((x :: l).map D.str)) (.int 0) = some (.str x) := by
  rw [ix_lst, show (0 : Int) = ((0 : Nat) : Int) from rfl, atI_nat (by simp)]
  rfl
theorem cut1L (x : Str) (l : List Str) : slD (.lst ((x :: l).map D.str)) (some 1) none = some (.lst (l.map D.str)) := by
  show some (D.lst (cutD _ _ _)) = _
  unfold cutD
  rw [HT.sIx_none, show (1 : Int) = ((1 : Nat) : Int) from rfl, HT.sIx_nat, List.map_cons, List.length_cons, Nat.min_eq_left (by omega), List.drop_succ_cons, List.drop_zero, List.take_of_length_le (by omega)]
theorem caught_ok {c : List Int} {x y : Str} {lf : List Str} {r : Nat} (hx : nmOk x = true) (glf : ∀ z ∈ y :: lf, nmOk z = true) (llf : (y :: lf).length ≤ 10) (hr : r ≤ 4) {t h : Int} (t0 : 0 ≤ t) (t1 : t + 12 ≤ 1000000) (h0 : 0 ≤ h) :
    ∃ I O t' h', Good I ∧ Good O ∧ I.size ≤ 46 ∧ I.dp ≤ 8 ∧ O.size ≤ 13 ∧ O.dp ≤ 8 ∧ t ≤ t' ∧ t' ≤ t + 12 ∧ 0 ≤ h' ∧
      run T w (n + 3) 29 [.ref 0, .lst ((x :: y :: lf).map D.str), .int r] [some (shelf c t h)] = some (.tup [I.enc, .str x, O.enc], [some (shelf c t' h')]) := by
  have gx : Good (.nm x) := fun z hz => by rw [List.mem_singleton.mp hz]; exact hx
  have gy : Good (.nm y) := fun z hz => by rw [List.mem_singleton.mp hz]; exact glf y List.mem_cons_self
  obtain ⟨I, O, t', h', y7, y8, r1, r2, r3, r4, r5, r6, r7, r8, r9, er⟩ := ca_loop (w := w) (n := n) (c := c) (v1 := some (.lst ((x :: y :: lf).map D.str))) (v2 := some (.int r)) (v3 := some (.str x)) (lf := y :: lf) (by simp) llf glf ((List.range r).map fun (k : Nat) => .int (0 + k)) 0 (.nm x) (.nm y) t h none none gx gy (by show 1 + 2 ≤ 3 * 2 ^ 0; decide) (by show 0 ≤ 2 * 0; decide) (by show 1 ≤ 1 + 3 * 0; decide) (by show 0 ≤ 2 * 0; decide) t0 (by simp only [List.length_map, List.length_range]; omega) h0
  simp only [List.length_map, List.length_range, Nat.zero_add] at r3 r4 r5 r6 r8
  have hp : 2 ^ r ≤ 2 ^ 4 := Nat.pow_le_pow_right (by decide) hr
  refine ⟨I, O, t', h', r1, r2, by omega, by omega, by omega, by omega, r7, by omega, r9, run_rts t29 rfl rfl ?_⟩
  show exs _ _ (.cons ca1 (.cons ca2 (.cons ca3 (.cons ca4 .nil)))) [some (.ref 0), some (.lst ((x :: y :: lf).map D.str)), some (.int r), none, none, none, none, none, none] [some (shelf c t h)] = _
  have z1 := ix0 x (y :: lf)
  have z2 := cut1L x (y :: lf)
  have z3 := ix0 y lf
  have zb : ((isNonE (E.c (.int 1)) || isIntD (.int 1)) && (isNonE (E.c .non) || isIntD .non)) = true := rfl
  have zl : biD .list [.lst ((y :: lf).map D.str)] = some (.lst ((y :: lf).map D.str)) := rfl
  generalize hL : D.lst ((x :: y :: lf).map D.str) = L at *
  generalize hM : D.lst ((y :: lf).map D.str) = M at *
  have hsL : ∀ S, see S L = some L := fun S => by rw [← hL]; rfl
  have hsM : ∀ S, see S M = some M := fun S => by rw [← hM]; rfl
  have s1 : ex (run T w (n + 2)) w ca1 [some (.ref 0), some L, some (.int r), none, none, none, none, none, none] [some (shelf c t h)] = some (.nx [some (.ref 0), some L, some (.int r), some (.str x), some M, some (.str x), none, none, none], [some (shelf c t h)]) := by
    simp only [ca1, ex, ev, evs, List.getElem?_cons_zero, List.getElem?_cons_succ, hsL, hsM, z1, z2, part?, zb, if_true, seeAll, zl]
    rfl
  have s2 : ex (run T w (n + 2)) w ca2 [some (.ref 0), some L, some (.int r), some (.str x), some M, some (.str x), none, none, none] [some (shelf c t h)] = some (.nx [some (.ref 0), some L, some (.int r), some (.str x), some M, some (Wr.nm x).enc, some (Wr.nm y).enc, none, none], [some (shelf c t h)]) := by
    simp only [ca2, ex, ev, evs, List.getElem?_cons_zero, List.getElem?_cons_succ, hsM, z3, setT, List.set_cons_succ, List.set_cons_zero]
    rfl
  have s3 : ex (run T w (n + 2)) w ca3 [some (.ref 0), some L, some (.int r), some (.str x), some M, some (Wr.nm x).enc, some (Wr.nm y).enc, none, none] [some (shelf c t h)] = some (.nx [some (.ref 0), some L, some (.int r), some (.str x), some M, some I.enc, some O.enc, y7, y8], [some (shelf c t' h')]) := by
    have hr' : ev (run T w (n + 2)) (.rng (.c (.int 0)) (.v 2)) [some (.ref 0), some L, some (.int r), some (.str x), some M, some (Wr.nm x).enc, some (Wr.nm y).enc, none, none] [some (shelf c t h)] = some (.lst ((List.range r).map fun (k : Nat) => .int (0 + k)), [some (shelf c t h)]) := by
      simp only [ev, List.getElem?_cons_zero, List.getElem?_cons_succ]
      rw [if_pos (by simp only [Bool.and_eq_true, decide_eq_true_eq]; omega), Int.sub_zero, Int.toNat_natCast]
    have hi : items (.lst ((List.range r).map fun (k : Nat) => D.int (0 + k))) = some ((List.range r).map fun (k : Nat) => D.int (0 + k)) := rfl
    have q : ∀ (o : Option (Out × Sto)), forRun (.n 7) (fun ρ S => exs (run T w (n + 2)) w (.cons caA (.cons caB (.cons caC .nil))) ρ S) ((List.range r).map fun (k : Nat) => D.int (0 + k)) [some (.ref 0), some L, some (.int r), some (.str x), some M, some (Wr.nm x).enc, some (Wr.nm y).enc, none, none] [some (shelf c t h)] = o → ex (run T w (n + 2)) w ca3 [some (.ref 0), some L, some (.int r), some (.str x), some M, some (Wr.nm x).enc, some (Wr.nm y).enc, none, none] [some (shelf c t h)] = o := fun o e => by
      rw [ca3, ex, hr']
      exact e
    exact q _ er
  have s4 : ex (run T w (n + 2)) w ca4 [some (.ref 0), some L, some (.int r), some (.str x), some M, some I.enc, some O.enc, y7, y8] [some (shelf c t' h')] = some (.rt (.tup [I.enc, .str x, O.enc]), [some (shelf c t' h')]) := by
    simp only [ca4, ex, ev, evs, List.getElem?_cons_zero, List.getElem?_cons_succ, sm_3, if_true]
  rw [exs, s1]
  simp only []
  rw [exs, s2]
  simp only []
  rw [exs, s3]
  simp only []
  rw [exs, s4]
end Lk06

set_option Elab.async false
set_option linter.all false
set_option maxRecDepth 100000
set_option maxHeartbeats 4000000
namespace Lk06
open PySem Iv
variable {w n : Nat}
theorem good_nm {x : Str} (h : nmOk x = true) : Good (.nm x) := fun y hy => by rw [List.mem_singleton.mp hy]; exact h
theorem good_of {x : Str} {b : Wr} (h : nmOk x = true) (g : Good b) : Good (.of x b) := fun y hy => by
  rcases List.mem_cons.mp hy with rfl | hy
  · exact h
  · exact g y hy
theorem good_to {a b : Wr} (g : Good a) (g' : Good b) : Good (.to a b) := fun y hy => (List.mem_append.mp hy).elim (g y) (g' y)
theorem w_ok : nmOk "w" = true := by decide +kernel
theorem y_ok : nmOk "y" = true := by decide +kernel
theorem x_ok : nmOk "x" = true := by decide +kernel
theorem u_ok : nmOk "u" = true := by decide +kernel
theorem v_ok : nmOk "v" = true := by decide +kernel
theorem wy : ("w" : Str) ≠ "y" := by decide +kernel
def f1E (e : E) : E := .call 15 (.cons (.call 17 (.cons (.tup (.cons (.c (.str "of")) (.cons (.c (.str "y")) (.cons (.tup (.cons (.c (.str "to")) (.cons (.c (.str "w")) (.cons e .nil)))) .nil)))) (.cons (.c (.str "w")) (.cons (.c (.str "y")) .nil)))) .nil)
def f2E (e : E) : E := .call 15 (.cons (.call 17 (.cons (.tup (.cons (.c (.str "of")) (.cons (.c (.str "y")) (.cons (.tup (.cons (.c (.str "to")) (.cons (.c (.str "w")) (.cons (.c (.str "y")) .nil)))) .nil)))) (.cons (.c (.str "w")) (.cons (.tup (.cons (.c (.str "to")) (.cons (.c (.str "y")) (.cons e .nil)))) .nil)))) .nil)
theorem f1_ok {x : Str} (hx : nmOk x = true) (h1 : x ≠ "w") (h2 : x ≠ "y") (hn : 60 ≤ n) {e : E} {ρ : Iv.Env} {S : Sto} (he : ev (run T w (n + 1)) e ρ S = some (.str x, S)) : ev (run T w (n + 1)) (f1E e) ρ S = some (.tup ([("y" : Str), x].map D.str), S) := by
  have gW : Good (.of "y" (.to (.nm "w") (.nm x))) := good_of y_ok (good_to (good_nm w_ok) (good_nm hx))
  obtain ⟨K, pk, ek⟩ := put_ok (w := w) (n := n) gW w_ok (good_nm y_ok) (by simp only [Wr.size]; omega) (by simp only [Wr.dp]; omega) (by simp only [Wr.dp]; omega) S
  obtain ⟨gK, dK, sK, cK, _⟩ := pk
  have e1 := ek _ _ (enc_T _) (enc_T _)
  have e1' : run T w (n + 1) 17 [.tup [.str "of", .str "y", .tup [.str "to", .str "w", .str x]], .str "w", .str "y"] S = some (K.enc, S) := e1
  simp only [Wr.dp, Wr.size] at dK sK
  have e2 := (free (w := w)).ok (n + 1) K.enc K S (enc_T K) gK (by omega) (by omega)
  have hc : cnt (.of "y" (.to (.nm "w") (.nm x))) [] = .of (.to (.fr "w") (.fr x)) := by simp [cnt, wy, h2]
  have ho : cnt (.nm "y") [] = .fr "y" := by simp [cnt]
  have hf : K.fr = [("y" : Str), x] := by
    rw [fr_is, cK, hc, ho]
    simp [Cn.sub, h1, Cn.frees, add, h2]
  rw [hf] at e2
  simp only [f1E, ev, evs, he, sm_3, if_true, e1', e2]
theorem f2_ok {x : Str} (hx : nmOk x = true) (h1 : x ≠ "w") (h2 : x ≠ "y") (hn : 60 ≤ n) {e : E} {ρ : Iv.Env} {S : Sto} (he : ev (run T w (n + 1)) e ρ S = some (.str x, S)) : ev (run T w (n + 1)) (f2E e) ρ S = some (.tup ([("y" : Str), x].map D.str), S) := by
  have gW : Good (.of "y" (.to (.nm "w") (.nm "y"))) := good_of y_ok (good_to (good_nm w_ok) (good_nm y_ok))
  have gO : Good (.to (.nm "y") (.nm x)) := good_to (good_nm y_ok) (good_nm hx)
  obtain ⟨K, pk, ek⟩ := put_ok (w := w) (n := n) gW w_ok gO (by simp only [Wr.size]; omega) (by simp only [Wr.dp]; omega) (by simp only [Wr.dp]; omega) S
  obtain ⟨gK, dK, sK, cK, _⟩ := pk
  have e1 := ek _ _ (enc_T _) (enc_T _)
  have e1' : run T w (n + 1) 17 [.tup [.str "of", .str "y", .tup [.str "to", .str "w", .str "y"]], .str "w", .tup [.str "to", .str "y", .str x]] S = some (K.enc, S) := e1
  simp only [Wr.dp, Wr.size] at dK sK
  have e2 := (free (w := w)).ok (n + 1) K.enc K S (enc_T K) gK (by omega) (by omega)
  have hc : cnt (.of "y" (.to (.nm "w") (.nm "y"))) [] = .of (.to (.fr "w") (.bd 0)) := by simp [cnt, wy]
  have ho : cnt (.to (.nm "y") (.nm x)) [] = .to (.fr "y") (.fr x) := by simp [cnt]
  have hf : K.fr = [("y" : Str), x] := by
    rw [fr_is, cK, hc, ho]
    simp [Cn.sub, Cn.frees, add, h2]
  rw [hf] at e2
  simp only [f2E, ev, evs, he, sm_3, if_true, e1', e2]
def lnA (k : Nat) : St := (.ifs (.cmp .NotEq (f1E (.v k)) (.tup (.cons (.c (.str "y")) (.cons (.v k) .nil)))) (.cons (.ret (.c (.bl false))) .nil) .nil)
def lnB (k : Nat) : St := (.ifs (.cmp .NotEq (f2E (.v k)) (.tup (.cons (.c (.str "y")) (.cons (.v k) .nil)))) (.cons (.ret (.c (.bl false))) .nil) .nil)
theorem ne_two {x : Str} (hx : nmOk x = true) : cmpD .NotEq (.tup ([("y" : Str), x].map D.str)) (.tup [.str "y", .str x]) = some false := by
  have g : ∀ z ∈ [("y" : Str), x], nmOk z = true := fun z hz => by
    simp only [List.mem_cons, List.not_mem_nil, or_false] at hz
    rcases hz with rfl | rfl
    · exact y_ok
    · exact hx
  have := ne_strsT g g
  rw [decide_eq_true rfl] at this
  exact this
theorem ln_ok {x : Str} (hx : nmOk x = true) (h1 : x ≠ "w") (h2 : x ≠ "y") (hn : 60 ≤ n) {ρ : Iv.Env} {S : Sto} {k : Nat} (he : ρ[k]? = some (some (.str x))) : exs (run T w (n + 1)) w (.cons (lnA k) (.cons (lnB k) .nil)) ρ S = some (.nx ρ, S) := by
  have e0 : ev (run T w (n + 1)) (.v k) ρ S = some (.str x, S) := by simp only [ev, he]
  have e1 := f1_ok (w := w) (n := n) hx h1 h2 hn e0
  have e2 := f2_ok (w := w) (n := n) hx h1 h2 hn e0
  have z := ne_two hx
  have s1 : ex (run T w (n + 1)) w (lnA k) ρ S = some (.nx ρ, S) := by
    rw [lnA, ex, ev, e1]
    simp only [ev, evs, he, sm_2, if_true, see_tup, z, exs]
  have s2 : ex (run T w (n + 1)) w (lnB k) ρ S = some (.nx ρ, S) := by
    rw [lnB, ex, ev, e2]
    simp only [ev, evs, he, sm_2, if_true, see_tup, z, exs]
  simp only [exs, s1, s2]
theorem ln_loop {v0 v1 v2 v3 v4 v5 v6 v7 v8 v9 v10 v11 v12 v13 : Option D} (hn : 60 ≤ n) {S : Sto} : ∀ (l : List Str) (y : Option D), (∀ x ∈ l, nmOk x = true ∧ x ≠ "w" ∧ x ≠ "y") → ∃ y', forRun (.n 14) (fun ρ S => exs (run T w (n + 1)) w (.cons (lnA 14) (.cons (lnB 14) .nil)) ρ S) (l.map D.str) [v0, v1, v2, v3, v4, v5, v6, v7, v8, v9, v10, v11, v12, v13, y] S = some (.nx [v0, v1, v2, v3, v4, v5, v6, v7, v8, v9, v10, v11, v12, v13, y'], S)
  | [], y, _ => ⟨y, rfl⟩
  | x :: l, y, h => by
    obtain ⟨h1, h2, h3⟩ := h x List.mem_cons_self
    obtain ⟨y', e⟩ := ln_loop (v0 := v0) (v1 := v1) (v2 := v2) (v3 := v3) (v4 := v4) (v5 := v5) (v6 := v6) (v7 := v7) (v8 := v8) (v9 := v9) (v10 := v10) (v11 := v11) (v12 := v12) (v13 := v13) hn (S := S) l (some (.str x)) fun z hz => h z (List.mem_cons_of_mem _ hz)
    refine ⟨y', ?_⟩
    have s := ln_ok (w := w) (n := n) (k := 14) (ρ := [v0, v1, v2, v3, v4, v5, v6, v7, v8, v9, v10, v11, v12, v13, some (.str x)]) (S := S) h1 h2 h3 hn rfl
    rw [List.map_cons, forRun]
    simp only [setT, List.set_cons_succ, List.set_cons_zero, s]
    exact e
def abcS : Str := "abcdefghijklmnopqrstuvwxyz"
def four (x : Str) : List Str := [x, x ++ "0", x ++ "1", x ++ "2"]
def abcL : List Str := abcS.cps.toList.map fun c => ⟨#[c]⟩
theorem abc_four : ∀ x ∈ abcL, ∀ e ∈ four x, nmOk e = true := by decide +kernel
theorem abc_small : ∀ x ∈ abcL, ∀ d ∈ [("0" : Str), "1", "2"], small (x.length + d.length) = true := by decide +kernel
def frC : E := (.compI false (.n 9) (.tup (.cons (.v 3) (.cons (.op .Add (.v 3) (.c (.str "0"))) (.cons (.op .Add (.v 3) (.c (.str "1"))) (.cons (.op .Add (.v 3) (.c (.str "2"))) .nil))))) (.cmp .NotIn (.v 9) (.tup (.cons (.c (.str "w")) (.cons (.c (.str "y")) .nil)))) (.v 9))
def ltI : St := (.for (.n 14) frC (.cons (lnA 14) (.cons (lnB 14) .nil)))
theorem frC_ok {x : Str} (hx : x ∈ abcL) {F : CF} {S : Sto} {v0 v1 v2 v4 v5 v6 v7 v8 v9 v10 v11 v12 v13 v14 : Option D} : ev F frC [v0, v1, v2, some (.str x), v4, v5, v6, v7, v8, v9, v10, v11, v12, v13, v14] S = some (.lst (((four x).filter fun e => !decide (e ∈ [("w" : Str), "y"])).map D.str), S) := by
  have a : ∀ d ∈ [("0" : Str), "1", "2"], opD .Add (.str x) (.str d) = some (.str (x ++ d)) := fun d hd => by
    show (if _ then _ else _) = _
    rw [if_pos (abc_small x hx d hd)]
  have a0 := a "0" (by simp)
  have a1 := a "1" (by simp)
  have a2 := a "2" (by simp)
  have sm4 : ∀ a b c d : D, small [a, b, c, d].length = true := fun _ _ _ _ => rfl
  have q := ev_filter (F := F) (i := 9) (it := (.tup (.cons (.v 3) (.cons (.op .Add (.v 3) (.c (.str "0"))) (.cons (.op .Add (.v 3) (.c (.str "1"))) (.cons (.op .Add (.v 3) (.c (.str "2"))) .nil)))))) (cond := (.cmp .NotIn (.v 9) (.tup (.cons (.c (.str "w")) (.cons (.c (.str "y")) .nil))))) (ρ := [v0, v1, v2, some (.str x), v4, v5, v6, v7, v8, v9, v10, v11, v12, v13, v14]) (S := S) (S1 := S) (x := .tup ((four x).map D.str)) (xs := (four x).map D.str) (p := fun d => match d with
    | .str y => !decide (y ∈ [("w" : Str), "y"])
    | _ => false) (by simp only [ev, evs, List.getElem?_cons_zero, List.getElem?_cons_succ, see_str, a0, a1, a2, sm4, if_true]; rfl) rfl (by simp) (fun d hd => by
      obtain ⟨y, hy, rfl⟩ := List.mem_map.mp hd
      have z := notin_strsT y [("w" : Str), "y"]
      have z' : cmpD .NotIn (.str y) (.tup [.str "w", .str "y"]) = some (!decide (y ∈ [("w" : Str), "y"])) := z
      simp only [ev, evs, List.set_cons_succ, List.set_cons_zero, List.getElem?_cons_zero, List.getElem?_cons_succ, see_str, see_tup, sm_2, if_true, z']) (by simp [four])
  rw [filter_strs] at q
  exact q
theorem lt_loop {v0 v1 v2 v4 v5 v6 v7 v8 v9 v10 v11 v12 v13 : Option D} (hn : 60 ≤ n) {S : Sto} : ∀ (l : List Str) (y3 y : Option D), (∀ x ∈ l, x ∈ abcL) → ∃ y3' y', forRun (.n 3) (fun ρ S => exs (run T w (n + 1)) w (.cons ltI .nil) ρ S) (l.map D.str) [v0, v1, v2, y3, v4, v5, v6, v7, v8, v9, v10, v11, v12, v13, y] S = some (.nx [v0, v1, v2, y3', v4, v5, v6, v7, v8, v9, v10, v11, v12, v13, y'], S)
  | [], y3, y, _ => ⟨y3, y, rfl⟩
  | x :: l, y3, y, h => by
    have hx := h x List.mem_cons_self
    have q := frC_ok (F := run T w (n + 1)) (S := S) (v0 := v0) (v1 := v1) (v2 := v2) (v4 := v4) (v5 := v5) (v6 := v6) (v7 := v7) (v8 := v8) (v9 := v9) (v10 := v10) (v11 := v11) (v12 := v12) (v13 := v13) (v14 := y) hx
    obtain ⟨y1, e1⟩ := ln_loop (w := w) (v0 := v0) (v1 := v1) (v2 := v2) (v3 := some (.str x)) (v4 := v4) (v5 := v5) (v6 := v6) (v7 := v7) (v8 := v8) (v9 := v9) (v10 := v10) (v11 := v11) (v12 := v12) (v13 := v13) hn (S := S) ((four x).filter fun e => !decide (e ∈ [("w" : Str), "y"])) y (fun z hz => by
      rw [List.mem_filter] at hz
      have hn := abc_four x hx z hz.1
      have h2 : z ∉ [("w" : Str), "y"] := by simpa using hz.2
      simp only [List.mem_cons, List.not_mem_nil, or_false, not_or] at h2
      exact ⟨hn, h2.1, h2.2⟩)
    obtain ⟨y3', y', e⟩ := lt_loop (v0 := v0) (v1 := v1) (v2 := v2) (v4 := v4) (v5 := v5) (v6 := v6) (v7 := v7) (v8 := v8) (v9 := v9) (v10 := v10) (v11 := v11) (v12 := v12) (v13 := v13) hn (S := S) l (some (.str x)) y1 fun z hz => h z (List.mem_cons_of_mem _ hz)
    refine ⟨y3', y', ?_⟩
    have s : ex (run T w (n + 1)) w ltI [v0, v1, v2, some (.str x), v4, v5, v6, v7, v8, v9, v10, v11, v12, v13, y] S = some (.nx [v0, v1, v2, some (.str x), v4, v5, v6, v7, v8, v9, v10, v11, v12, v13, y1], S) := by
      have hi : ∀ l : List D, items (.lst l) = some l := fun _ => rfl
      rw [ltI, ex, q]
      simp only [hi]
      exact e1
    rw [List.map_cons, forRun]
    simp only [setT, List.set_cons_succ, List.set_cons_zero, exs, s]
    exact e
def xn (i : Nat) : Str := ("x" : Str) ++ Str.ofString (toString (i : Int))
def yn (i : Nat) : Str := ("y" : Str) ++ Str.ofString (toString (i : Int))
theorem n13 : ∀ i : Nat, i < 13 → nmOk (xn i) = true ∧ nmOk (yn i) = true ∧ yn i ≠ "w" ∧ yn i ≠ "y" ∧ small (("x" : Str).length + (Str.ofString (toString (i : Int))).length) = true ∧ small (("y" : Str).length + (Str.ofString (toString (i : Int))).length) = true := by decide +kernel
def nbA : St := (.asg (.n 4) (.tup (.cons (.c (.str "to")) (.cons (.v 4) (.cons (.op .Add (.c (.str "x")) (.bi .str (.cons (.v 6) .nil))) .nil)))))
def ynE : E := (.op .Add (.c (.str "y")) (.bi .str (.cons (.v 6) .nil)))
def nbB : St := (.ifs (.cmp .NotEq (f1E ynE) (.tup (.cons (.c (.str "y")) (.cons ynE .nil)))) (.cons (.ret (.c (.bl false))) .nil) .nil)
theorem nb_loop {v0 v1 v2 v3 v5 : Option D} {tl : List (Option D)} (hn : 60 ≤ n) {S : Sto} : ∀ (l : List Nat) (C : Wr) (y : Option D), (∀ i ∈ l, i < 13) → Good C → ∃ C' y', Good C' ∧ C'.size = C.size + 2 * l.length ∧ C'.dp ≤ C.dp + l.length ∧
    forRun (.n 6) (fun ρ S => exs (run T w (n + 1)) w (.cons nbA (.cons nbB .nil)) ρ S) (l.map fun (i : Nat) => D.int i) (v0 :: v1 :: v2 :: v3 :: some C.enc :: v5 :: y :: tl) S = some (.nx (v0 :: v1 :: v2 :: v3 :: some C'.enc :: v5 :: y' :: tl), S)
  | [], C, y, _, gC => ⟨C, y, gC, by simp, by simp, rfl⟩
  | i :: l, C, y, h, gC => by
    have hi := h i List.mem_cons_self
    obtain ⟨h1, h2, h3, h4, h5, h6⟩ := n13 i hi
    have gC' : Good (.to C (.nm (xn i))) := good_to gC (good_nm h1)
    obtain ⟨C', y', r1, r2, r3, er⟩ := nb_loop (v0 := v0) (v1 := v1) (v2 := v2) (v3 := v3) (v5 := v5) (tl := tl) hn (S := S) l (.to C (.nm (xn i))) (some (.int i)) (fun z hz => h z (List.mem_cons_of_mem _ hz)) gC'
    refine ⟨C', y', r1, by rw [r2]; simp only [Wr.size, List.length_cons]; omega, by simp only [Wr.dp] at r3; simp only [List.length_cons]; omega, ?_⟩
    have zi := str_int (j := i) (by omega)
    have zx : opD .Add (.str "x") (.str (Str.ofString (toString (i : Int)))) = some (.str (xn i)) := by
      show (if _ then _ else _) = _
      rw [if_pos h5]
      rfl
    have zy : opD .Add (.str "y") (.str (Str.ofString (toString (i : Int)))) = some (.str (yn i)) := by
      show (if _ then _ else _) = _
      rw [if_pos h6]
      rfl
    have s1 : ex (run T w (n + 1)) w nbA (v0 :: v1 :: v2 :: v3 :: some C.enc :: v5 :: some (.int i) :: tl) S = some (.nx (v0 :: v1 :: v2 :: v3 :: some (Wr.to C (.nm (xn i))).enc :: v5 :: some (.int i) :: tl), S) := by
      simp only [nbA, ex, ev, evs, seeAll, see_int, see_str, List.getElem?_cons_zero, List.getElem?_cons_succ, zi, zx, sm_3, if_true, setT, List.set_cons_succ, List.set_cons_zero]
      rfl
    have ey : ev (run T w (n + 1)) ynE (v0 :: v1 :: v2 :: v3 :: some (Wr.to C (.nm (xn i))).enc :: v5 :: some (.int i) :: tl) S = some (.str (yn i), S) := by
      simp only [ynE, ev, evs, seeAll, see_int, see_str, List.getElem?_cons_zero, List.getElem?_cons_succ, zi, zy]
    have e1 := f1_ok (w := w) (n := n) h2 h3 h4 hn ey
    have z := ne_two h2
    have s2 : ex (run T w (n + 1)) w nbB (v0 :: v1 :: v2 :: v3 :: some (Wr.to C (.nm (xn i))).enc :: v5 :: some (.int i) :: tl) S = some (.nx (v0 :: v1 :: v2 :: v3 :: some (Wr.to C (.nm (xn i))).enc :: v5 :: some (.int i) :: tl), S) := by
      have e2 : ev (run T w (n + 1)) (.tup (.cons (.c (.str "y")) (.cons ynE .nil))) (v0 :: v1 :: v2 :: v3 :: some (Wr.to C (.nm (xn i))).enc :: v5 :: some (.int i) :: tl) S = some (.tup [.str "y", .str (yn i)], S) := by
        simp only [ev, evs, ey, sm_2, if_true]
      rw [nbB, ex, ev, e1]
      simp only [e2, see_tup, z, exs]
    rw [List.map_cons, forRun]
    simp only [setT, List.set_cons_succ, List.set_cons_zero, exs, s1, s2]
    exact er
def leA : St := (.asg (.n 5) (.tup (.cons (.c (.str "to")) (.cons (.v 5) (.cons (.v 3) .nil)))))
theorem le_loop {F : CF} {v0 v1 v2 v4 : Option D} {tl : List (Option D)} {S : Sto} : ∀ (l : List Str) (C : Wr) (y : Option D), (∀ i ∈ l, nmOk i = true) → Good C → ∃ C' y', Good C' ∧ C'.size = C.size + 2 * l.length ∧ C'.dp ≤ C.dp + l.length ∧
    forRun (.n 3) (fun ρ S => exs F w (.cons leA .nil) ρ S) (l.map D.str) (v0 :: v1 :: v2 :: y :: v4 :: some C.enc :: tl) S = some (.nx (v0 :: v1 :: v2 :: y' :: v4 :: some C'.enc :: tl), S)
  | [], C, y, _, gC => ⟨C, y, gC, by simp, by simp, rfl⟩
  | x :: l, C, y, h, gC => by
    have hx := h x List.mem_cons_self
    have gC' : Good (.to C (.nm x)) := good_to gC (good_nm hx)
    obtain ⟨C', y', r1, r2, r3, er⟩ := le_loop (F := F) (v0 := v0) (v1 := v1) (v2 := v2) (v4 := v4) (tl := tl) (S := S) l (.to C (.nm x)) (some (.str x)) (fun z hz => h z (List.mem_cons_of_mem _ hz)) gC'
    refine ⟨C', y', r1, by rw [r2]; simp only [Wr.size, List.length_cons]; omega, by simp only [Wr.dp] at r3; simp only [List.length_cons]; omega, ?_⟩
    have s1 : ex F w leA (v0 :: v1 :: v2 :: some (.str x) :: v4 :: some C.enc :: tl) S = some (.nx (v0 :: v1 :: v2 :: some (.str x) :: v4 :: some (Wr.to C (.nm x)).enc :: tl), S) := by
      simp only [leA, ex, ev, evs, List.getElem?_cons_zero, List.getElem?_cons_succ, sm_3, if_true, setT, List.set_cons_succ, List.set_cons_zero]
      rfl
    rw [List.map_cons, forRun]
    simp only [setT, List.set_cons_succ, List.set_cons_zero, exs, s1]
    exact er
end Lk06

set_option Elab.async false
set_option linter.all false
set_option maxRecDepth 100000
set_option maxHeartbeats 4000000
namespace Lk06
open PySem Iv
variable {w n : Nat}
def nsl : List (List Str) := [["x", "y", "z"], ["x", "x0", "x1", "x2"], ["abcdefghijkl", "a", "abcdefghijk0"], ["f", "f1", "x"]]
def nslE : E := (.lst (.cons (.lst (.cons (.c (.str "x")) (.cons (.c (.str "y")) (.cons (.c (.str "z")) .nil)))) (.cons (.lst (.cons (.c (.str "x")) (.cons (.c (.str "x0")) (.cons (.c (.str "x1")) (.cons (.c (.str "x2")) .nil))))) (.cons (.lst (.cons (.c (.str "abcdefghijkl")) (.cons (.c (.str "a")) (.cons (.c (.str "abcdefghijk0")) .nil)))) (.cons (.lst (.cons (.c (.str "f")) (.cons (.c (.str "f1")) (.cons (.c (.str "x")) .nil)))) .nil)))))
theorem nsl_ok : ∀ l ∈ nsl, l.length ≤ 4 ∧ (∀ x ∈ l, nmOk x = true) ∧ ∀ x ∈ l, ∀ j : Nat, j < 100 → x ≠ wn j := by decide +kernel
theorem nsl_two : ∀ l ∈ nsl, ∃ x y r, l = x :: y :: r ∧ ∃ z ∈ l, ixD (.lst (l.map D.str)) (.int (-1)) = some (.str z) := by
  intro l hl
  simp only [nsl, List.mem_cons, List.not_mem_nil, or_false] at hl
  rcases hl with rfl | rfl | rfl | rfl
  · exact ⟨_, _, _, rfl, "z", by simp, rfl⟩
  · exact ⟨_, _, _, rfl, "x2", by simp, rfl⟩
  · exact ⟨_, _, _, rfl, "abcdefghijk0", by simp, rfl⟩
  · exact ⟨_, _, _, rfl, "x", by simp, rfl⟩
def nmA : St := (.ifs (.or (.not (.call 28 (.cons (.v 8) (.cons (.v 10) (.cons (.v 9) .nil))))) (.cmp .IsNot (.call 16 (.cons (.call 17 (.cons (.v 8) (.cons (.v 10) (.cons (.v 10) .nil)))) (.cons (.v 8) .nil))) (.c (.bl true)))) (.cons (.ret (.c (.bl false))) .nil) .nil)
theorem isnot_t : cmpD .IsNot (.bl true) (.bl true) = some false := rfl
theorem nm_loop {v0 v1 v2 v3 v4 v5 v6 v7 : Option D} {tl : List (Option D)} {W O : Wr} (gW : Good W) (gO : Good O) (sW : W.size ≤ 16) (sO : O.size ≤ 8) (dW : W.dp ≤ 16) (dO : O.dp ≤ 8) (hn : 120 ≤ n) (hn2 : n ≤ 900) (hw : 10000 ≤ w) {S : Sto} : ∀ (l : List Str) (y : Option D), (∀ x ∈ l, nmOk x = true) → ∃ y',
    forRun (.n 10) (fun ρ S => exs (run T w (n + 1)) w (.cons nmA .nil) ρ S) (l.map D.str) (v0 :: v1 :: v2 :: v3 :: v4 :: v5 :: v6 :: v7 :: some W.enc :: some O.enc :: y :: tl) S = some (.nx (v0 :: v1 :: v2 :: v3 :: v4 :: v5 :: v6 :: v7 :: some W.enc :: some O.enc :: y' :: tl), S)
  | [], y, _ => ⟨y, rfl⟩
  | x :: l, y, h => by
    have hx := h x List.mem_cons_self
    obtain ⟨y', e⟩ := nm_loop (v0 := v0) (v1 := v1) (v2 := v2) (v3 := v3) (v4 := v4) (v5 := v5) (v6 := v6) (v7 := v7) (tl := tl) gW gO sW sO dW dO hn hn2 hw (S := S) l (some (.str x)) fun z hz => h z (List.mem_cons_of_mem _ hz)
    refine ⟨y', ?_⟩
    have e1 := put_right (w := w) (n := n) gW hx gO (by omega) (by omega) (by omega) (by omega) hn hn2 hw S
    obtain ⟨K, pk, ek⟩ := put_ok (w := w) (n := n) gW hx (good_nm hx) (by show 1 + W.size ≤ 190; omega) (by omega) (by show 0 + 8 ≤ n; omega) S
    obtain ⟨gK, dK, sK, cK, _⟩ := pk
    simp only [Wr.dp] at dK
    have e2 := ek _ _ (enc_T W) (enc_T (.nm x))
    have e2' : run T w (n + 1) 17 [W.enc, .str x, .str x] S = some (K.enc, S) := e2
    have e3 := alike_ok (w := w) (n := n) (enc_T K) (enc_T W) gK gW (by omega) (by omega) (by omega) S
    have hc : cnt K [] = cnt W [] := by
      rw [cK, show cnt (.nm x) [] = .fr x by simp [cnt], sub_self]
    rw [decide_eq_true hc] at e3
    have s : ex (run T w (n + 1)) w nmA (v0 :: v1 :: v2 :: v3 :: v4 :: v5 :: v6 :: v7 :: some W.enc :: some O.enc :: some (.str x) :: tl) S = some (.nx (v0 :: v1 :: v2 :: v3 :: v4 :: v5 :: v6 :: v7 :: some W.enc :: some O.enc :: some (.str x) :: tl), S) := by
      simp only [nmA, ex, exs, ev, evs, List.getElem?_cons_zero, List.getElem?_cons_succ, e1, e2', e3, see_bl, isnot_t, Bool.not_true]
    rw [List.map_cons, forRun]
    simp only [setT, List.set_cons_succ, List.set_cons_zero, exs, s]
    exact e
def lp1 : St := (.asg (.n 7) (.call 20 (.cons (.v 1) (.cons nslE .nil))))
def lp2 : St := (.par [8, 9] (.cons (.call 21 (.cons (.v 1) (.cons (.op .Add (.c (.int 1)) (.call 19 (.cons (.v 1) (.cons (.c (.int 16)) .nil)))) (.cons (.v 7) .nil)))) (.cons (.call 21 (.cons (.v 1) (.cons (.op .Add (.c (.int 1)) (.call 19 (.cons (.v 1) (.cons (.c (.int 8)) .nil)))) (.cons (.v 7) .nil)))) .nil)))
def lp3 : St := (.for (.n 10) (.v 7) (.cons nmA .nil))
def lp4 : St := (.asg (.t [11, 10, 12]) (.call 29 (.cons (.v 1) (.cons (.v 7) (.cons (.op .Add (.c (.int 1)) (.call 19 (.cons (.v 1) (.cons (.c (.int 4)) .nil)))) .nil)))))
def lp5 : St := (.ifs (.or (.not (.call 28 (.cons (.v 11) (.cons (.v 10) (.cons (.v 12) .nil))))) (.or (.not (.call 28 (.cons (.v 11) (.cons (.ix (.v 7) (.neg (.c (.int 1)))) (.cons (.v 12) .nil))))) (.not (.call 28 (.cons (.tup (.cons (.c (.str "to")) (.cons (.v 11) (.cons (.v 8) .nil)))) (.cons (.v 10) (.cons (.v 12) .nil))))))) (.cons (.ret (.c (.bl false))) .nil) .nil)
def lp6 : St := (.asg (.n 13) (.call 17 (.cons (.call 30 (.cons (.v 8) (.cons (.lst .nil) (.cons (.c (.int 3)) .nil)))) (.cons (.ix (.v 7) (.c (.int 0))) (.cons (.call 30 (.cons (.v 9) (.cons (.lst .nil) (.cons (.c (.int 0)) .nil)))) .nil)))))
def lp7 : St := (.ifs (.cmp .IsNot (.call 16 (.cons (.v 13) (.cons (.call 17 (.cons (.v 8) (.cons (.ix (.v 7) (.c (.int 0))) (.cons (.v 9) .nil)))) .nil))) (.c (.bl true))) (.cons (.ret (.c (.bl false))) .nil) .nil)
def lapB : Ss := (.cons lp1 (.cons lp2 (.cons lp3 (.cons lp4 (.cons lp5 (.cons lp6 (.cons lp7 .nil)))))))
theorem lap_ok {c : List Int} {v0 v3 v4 v5 v6 v14 : Option D} {d : D} (hn : 130 ≤ n) (hn2 : n ≤ 800) (hw : 10000 ≤ w) (t h : Int) (y7 y8 y9 y10 y11 y12 y13 : Option D) (t0 : 0 ≤ t) (t1 : t ≤ 500000) (h0 : 0 ≤ h) : ∃ t' h' z7 z8 z9 z10 z11 z12 z13, t ≤ t' ∧ t' ≤ t + 100 ∧ 0 ≤ h' ∧
    exs (run T w (n + 3)) w lapB [v0, some (.ref 0), some d, v3, v4, v5, v6, y7, y8, y9, y10, y11, y12, y13, v14] [some (shelf c t h)] = some (.nx [v0, some (.ref 0), some d, v3, v4, v5, v6, z7, z8, z9, z10, z11, z12, z13, v14], [some (shelf c t' h')]) := by
  obtain ⟨j, z, ta_, ha, hj, a1, a2, a3, ea⟩ := one_ok (n := n + 1) (dr (w := w) c) t20 (xs := nsl.map fun l => .lst (l.map D.str)) (by decide) (by decide) (R := []) t0 (by omega) h0
  rw [List.getElem?_map] at hj
  obtain ⟨ns, hns, rfl⟩ : ∃ ns ∈ nsl, z = .lst (ns.map D.str) := by
    cases hx2 : nsl[j]? with
    | none => rw [hx2] at hj; cases hj
    | some u => rw [hx2] at hj; cases hj; exact ⟨u, List.mem_of_getElem? hx2, rfl⟩
  obtain ⟨nl, nok, nwn⟩ := nsl_ok ns hns
  obtain ⟨x, y, r, hxy, zl, hzl, ez⟩ := nsl_two ns hns
  have n0 : ns ≠ [] := by rw [hxy]; simp
  obtain ⟨rb, tb, hb, b0, b1, b2, b3, b4, eb⟩ := (dr (w := w) c).ok (n + 2) [] 16 ta_ ha (by decide) (by decide) (by omega) (by omega) a3
  obtain ⟨W, tc, hc, c1, c2, c3, c4, c5, c6, ec⟩ := drawn_ok (dr (w := w) c) t20 t21 (ns := ns) n0 (by omega) (R := []) (1 + rb).toNat (by omega) (n + 3) tb hb (by unfold dpb; split <;> omega) (by omega) (by omega) b4
  rw [show (((1 + rb).toNat : Nat) : Int) = 1 + rb by omega] at ec
  have gW : Good W := fun x hx => nok x (c1 x hx)
  have dW : W.dp ≤ 16 := by unfold dpb at c3; split at c3 <;> omega
  obtain ⟨rd, td, hd, d0, d1, d2, d3, d4, ed⟩ := (dr (w := w) c).ok (n + 2) [] 8 tc hc (by decide) (by decide) (by omega) (by omega) c6
  obtain ⟨O, te, he, e1, e2, e3, e4, e5, e6, ee⟩ := drawn_ok (dr (w := w) c) t20 t21 (ns := ns) n0 (by omega) (R := []) (1 + rd).toNat (by omega) (n + 3) td hd (by unfold dpb; split <;> omega) (by omega) (by omega) d4
  rw [show (((1 + rd).toNat : Nat) : Int) = 1 + rd by omega] at ee
  have gO : Good O := fun x hx => nok x (e1 x hx)
  have dO : O.dp ≤ 8 := by unfold dpb at e3; split at e3 <;> omega
  obtain ⟨y10', ef⟩ := nm_loop (w := w) (n := n + 2) (v0 := v0) (v1 := some (.ref 0)) (v2 := some d) (v3 := v3) (v4 := v4) (v5 := v5) (v6 := v6) (v7 := some (.lst (ns.map D.str))) (tl := [y11, y12, y13, v14]) gW gO (by omega) (by omega) dW dO (by omega) (by omega) hw (S := [some (shelf c te he)]) ns y10 nok
  obtain ⟨rg, tg, hg, g0, g1, g2, g3, g4, eg⟩ := (dr (w := w) c).ok (n + 2) [] 4 te he (by decide) (by decide) (by omega) (by omega) e6
  have hx : nmOk x = true := nok x (by rw [hxy]; exact List.mem_cons_self)
  have hyr : ∀ z ∈ y :: r, nmOk z = true := fun z hz => nok z (by rw [hxy]; exact List.mem_cons_of_mem _ hz)
  have hlr : (y :: r).length ≤ 10 := by rw [hxy] at nl; simp only [List.length_cons] at nl ⊢; omega
  obtain ⟨I, Q, ti, hi, i1, i2, i3, i4, i5, i6, i7, i8, i9, ei⟩ := caught_ok (w := w) (n := n) (c := c) (x := x) (y := y) (lf := r) (r := (1 + rg).toNat) hx hyr hlr (by omega) (t := tg) (h := hg) (by omega) (by omega) g4
  rw [show (((1 + rg).toNat : Nat) : Int) = 1 + rg by omega, ← hxy] at ei
  have q1 := put_right (w := w) (n := n + 2) i1 hx i2 (by omega) (by omega) (by omega) (by omega) (by omega) (by omega) hw [some (shelf c ti hi)]
  have q2 := put_right (w := w) (n := n + 2) i1 (nok zl hzl) i2 (by omega) (by omega) (by omega) (by omega) (by omega) (by omega) hw [some (shelf c ti hi)]
  have q3 := put_right (w := w) (n := n + 2) (good_to i1 gW) hx i2 (by simp only [Wr.size]; omega) (by omega) (by simp only [Wr.dp]; omega) (by omega) (by omega) (by omega) hw [some (shelf c ti hi)]
  have q3' : run T w (n + 2 + 1) 28 [.tup [.str "to", I.enc, W.enc], .str x, Q.enc] [some (shelf c ti hi)] = some (.bl true, [some (shelf c ti hi)]) := q3
  obtain ⟨aW, sW, pW⟩ := ta_ok 3 W [] gW (by simp only [List.length_nil]; omega)
  obtain ⟨aO, sO, pO⟩ := ta_ok 0 O [] gO (by simp only [List.length_nil]; omega)
  have r1 := anew_ok (w := w) (at_ := 3) W (n + 3) [] [some (shelf c ti hi)] (by omega) (by simp only [List.length_nil]; omega)
  have r2 := anew_ok (w := w) (at_ := 0) O (n + 3) [] [some (shelf c ti hi)] (by omega) (by simp only [List.length_nil]; omega)
  have r1' : run T w (n + 3) 30 [W.enc, .lst [], .int 3] [some (shelf c ti hi)] = some ((ta 3 W []).enc, [some (shelf c ti hi)]) := r1
  have r2' : run T w (n + 3) 30 [O.enc, .lst [], .int 0] [some (shelf c ti hi)] = some ((ta 0 O []).enc, [some (shelf c ti hi)]) := r2
  have cW := cnt_ta 3 W [] (fun y hy j hj => nwn y (c1 y hy) j hj) (by simp only [List.length_nil]; omega)
  have cO := cnt_ta 0 O [] (fun y hy j hj => nwn y (e1 y hy) j hj) (by simp only [List.length_nil]; omega)
  have cW' : cnt (ta 3 W []) [] = cnt W [] := cW
  have cO' : cnt (ta 0 O []) [] = cnt O [] := cO
  generalize hVW : ta 3 W [] = VW at *
  generalize hVO : ta 0 O [] = VO at *
  obtain ⟨K1, pk1, ek1⟩ := put_ok (w := w) (n := n + 2) aW hx aO (by omega) (by omega) (by omega) [some (shelf c ti hi)]
  obtain ⟨gK1, dK1, _, cK1, _⟩ := pk1
  obtain ⟨K2, pk2, ek2⟩ := put_ok (w := w) (n := n + 2) gW hx gO (by omega) (by omega) (by omega) [some (shelf c ti hi)]
  obtain ⟨gK2, dK2, _, cK2, _⟩ := pk2
  have f1 := ek1 _ _ (enc_T VW) (enc_T VO)
  have f2 := ek2 _ _ (enc_T W) (enc_T O)
  have f3 := alike_ok (w := w) (n := n + 2) (enc_T K1) (enc_T K2) gK1 gK2 (by omega) (by omega) (by omega) [some (shelf c ti hi)]
  rw [decide_eq_true (by rw [cK1, cK2, cW', cO'])] at f3
  have ix := ix0 x (y :: r)
  rw [← hxy] at ix
  refine ⟨ti, hi, some (.lst (ns.map D.str)), some W.enc, some O.enc, some (.str x), some I.enc, some Q.enc, some K1.enc, by omega, by omega, i9, ?_⟩
  generalize hL : D.lst (ns.map D.str) = L at *
  have hsl : ∀ S, see S L = some L := fun S => by rw [← hL]; rfl
  have hil : items L = some (ns.map D.str) := by rw [← hL]; rfl
  have zn : ∀ ρ S, ev (run T w (n + 3)) nslE ρ S = some (.lst (nsl.map fun l => .lst (l.map D.str)), S) := fun _ _ => rfl
  have sm0 : small ([] : List D).length = true := rfl
  have s1 : ex (run T w (n + 3)) w lp1 [v0, some (.ref 0), some d, v3, v4, v5, v6, y7, y8, y9, y10, y11, y12, y13, v14] [some (shelf c t h)] = some (.nx [v0, some (.ref 0), some d, v3, v4, v5, v6, some L, y8, y9, y10, y11, y12, y13, v14], [some (shelf c ta_ ha)]) := by
    simp only [lp1, ex, ev, evs, List.getElem?_cons_zero, List.getElem?_cons_succ, zn, ea, setT, List.set_cons_succ, List.set_cons_zero]
  have s2 : ex (run T w (n + 3)) w lp2 [v0, some (.ref 0), some d, v3, v4, v5, v6, some L, y8, y9, y10, y11, y12, y13, v14] [some (shelf c ta_ ha)] = some (.nx [v0, some (.ref 0), some d, v3, v4, v5, v6, some L, some W.enc, some O.enc, y10, y11, y12, y13, v14], [some (shelf c te he)]) := by
    simp only [lp2, ex, ev, evs, List.getElem?_cons_zero, List.getElem?_cons_succ, eb, see_int, op_add, ec, ed, ee]
    rfl
  have s3 : ex (run T w (n + 3)) w lp3 [v0, some (.ref 0), some d, v3, v4, v5, v6, some L, some W.enc, some O.enc, y10, y11, y12, y13, v14] [some (shelf c te he)] = some (.nx [v0, some (.ref 0), some d, v3, v4, v5, v6, some L, some W.enc, some O.enc, y10', y11, y12, y13, v14], [some (shelf c te he)]) := by
    rw [lp3, ex]
    simp only [ev, List.getElem?_cons_zero, List.getElem?_cons_succ, hil]
    exact ef
  have s4 : ex (run T w (n + 3)) w lp4 [v0, some (.ref 0), some d, v3, v4, v5, v6, some L, some W.enc, some O.enc, y10', y11, y12, y13, v14] [some (shelf c te he)] = some (.nx [v0, some (.ref 0), some d, v3, v4, v5, v6, some L, some W.enc, some O.enc, some (.str x), some I.enc, some Q.enc, y13, v14], [some (shelf c ti hi)]) := by
    simp only [lp4, ex, ev, evs, List.getElem?_cons_zero, List.getElem?_cons_succ, eg, see_int, op_add, ei]
    rfl
  have s5 : ex (run T w (n + 3)) w lp5 [v0, some (.ref 0), some d, v3, v4, v5, v6, some L, some W.enc, some O.enc, some (.str x), some I.enc, some Q.enc, y13, v14] [some (shelf c ti hi)] = some (.nx [v0, some (.ref 0), some d, v3, v4, v5, v6, some L, some W.enc, some O.enc, some (.str x), some I.enc, some Q.enc, y13, v14], [some (shelf c ti hi)]) := by
    have ng : (-(1 : Int)) = -1 := rfl
    simp only [lp5, ex, exs, ev, evs, List.getElem?_cons_zero, List.getElem?_cons_succ, q1, hsl, ez, q2, sm_3, if_true, q3', Bool.not_true]
  have s6 : ex (run T w (n + 3)) w lp6 [v0, some (.ref 0), some d, v3, v4, v5, v6, some L, some W.enc, some O.enc, some (.str x), some I.enc, some Q.enc, y13, v14] [some (shelf c ti hi)] = some (.nx [v0, some (.ref 0), some d, v3, v4, v5, v6, some L, some W.enc, some O.enc, some (.str x), some I.enc, some Q.enc, some K1.enc, v14], [some (shelf c ti hi)]) := by
    simp only [lp6, ex, exs, ev, evs, List.getElem?_cons_zero, List.getElem?_cons_succ, sm0, if_true, r1', r2', hsl, ix, f1, setT, List.set_cons_succ, List.set_cons_zero]
  have s7 : ex (run T w (n + 3)) w lp7 [v0, some (.ref 0), some d, v3, v4, v5, v6, some L, some W.enc, some O.enc, some (.str x), some I.enc, some Q.enc, some K1.enc, v14] [some (shelf c ti hi)] = some (.nx [v0, some (.ref 0), some d, v3, v4, v5, v6, some L, some W.enc, some O.enc, some (.str x), some I.enc, some Q.enc, some K1.enc, v14], [some (shelf c ti hi)]) := by
    simp only [lp7, ex, exs, ev, evs, List.getElem?_cons_zero, List.getElem?_cons_succ, hsl, ix, f2, f3, see_bl, isnot_t]
  rw [lapB, exs, s1]
  simp only []
  rw [exs, s2]
  simp only []
  rw [exs, s3]
  simp only []
  rw [exs, s4]
  simp only []
  rw [exs, s5]
  simp only []
  rw [exs, s6]
  simp only []
  rw [exs, s7]
  rfl
theorem laps_ok {c : List Int} {v0 v3 v4 v5 v6 v14 : Option D} (hn : 130 ≤ n) (hn2 : n ≤ 800) (hw : 10000 ≤ w) : ∀ (l : List D) (t h : Int) (y2 y7 y8 y9 y10 y11 y12 y13 : Option D), 0 ≤ t → t + 100 * l.length ≤ 400000 → 0 ≤ h → ∃ t' h' z2 z7 z8 z9 z10 z11 z12 z13, t ≤ t' ∧ t' ≤ t + 100 * l.length ∧ 0 ≤ h' ∧
    forRun (.n 2) (fun ρ S => exs (run T w (n + 3)) w lapB ρ S) l [v0, some (.ref 0), y2, v3, v4, v5, v6, y7, y8, y9, y10, y11, y12, y13, v14] [some (shelf c t h)] = some (.nx [v0, some (.ref 0), z2, v3, v4, v5, v6, z7, z8, z9, z10, z11, z12, z13, v14], [some (shelf c t' h')])
  | [], t, h, y2, y7, y8, y9, y10, y11, y12, y13, t0, t1, h0 => ⟨t, h, y2, y7, y8, y9, y10, y11, y12, y13, by omega, by omega, h0, rfl⟩
  | d :: l, t, h, y2, y7, y8, y9, y10, y11, y12, y13, t0, t1, h0 => by
    simp only [List.length_cons] at t1 ⊢
    obtain ⟨ta_, ha, a7, a8, a9, a10, a11, a12, a13, b1, b2, b3, e1⟩ := lap_ok (w := w) (n := n) (c := c) (v0 := v0) (v3 := v3) (v4 := v4) (v5 := v5) (v6 := v6) (v14 := v14) (d := d) hn hn2 hw t h y7 y8 y9 y10 y11 y12 y13 t0 (by omega) h0
    obtain ⟨tb, hb, z2, z7, z8, z9, z10, z11, z12, z13, c1, c2, c3, e2⟩ := laps_ok (c := c) (v0 := v0) (v3 := v3) (v4 := v4) (v5 := v5) (v6 := v6) (v14 := v14) hn hn2 hw l ta_ ha (some d) a7 a8 a9 a10 a11 a12 a13 (by omega) (by omega) b3
    refine ⟨tb, hb, z2, z7, z8, z9, z10, z11, z12, z13, by omega, by omega, c3, ?_⟩
    rw [forRun]
    simp only [setT, List.set_cons_succ, List.set_cons_zero, e1]
    exact e2
def abE : E := (.bi .list (.cons (.c (.str "abcdefghijklmnopqrstuvwxyz")) .nil))
def lw2 : St := (.for (.n 2) (.rng (.c (.int 0)) (.c (.int 4))) lapB)
def lw3 : St := (.for (.n 3) abE (.cons ltI .nil))
def lw4 : St := (.asg (.t [4, 5]) (.tup (.cons (.c (.str "w")) (.cons (.c (.str "w")) .nil))))
def lw5 : St := (.for (.n 6) (.rng (.c (.int 0)) (.c (.int 13))) (.cons nbA (.cons nbB .nil)))
def lw6 : St := (.for (.n 3) abE (.cons leA .nil))
def lw7 : St := (.ifs (.or (.not (.call 28 (.cons (.tup (.cons (.c (.str "of")) (.cons (.c (.str "x")) (.cons (.v 4) .nil)))) (.cons (.c (.str "w")) (.cons (.c (.str "x")) .nil))))) (.not (.call 28 (.cons (.tup (.cons (.c (.str "of")) (.cons (.c (.str "x")) (.cons (.v 5) .nil)))) (.cons (.c (.str "w")) (.cons (.c (.str "x")) .nil)))))) (.cons (.ret (.c (.bl false))) .nil) .nil)
def uE : E := (.call 17 (.cons (.tup (.cons (.c (.str "of")) (.cons (.c (.str "u")) (.cons (.c (.str "w")) .nil)))) (.cons (.c (.str "w")) (.cons (.c (.str "u")) .nil))))
def lw8 : St := (.ret (.and (.cmp .Is (.call 16 (.cons uE (.cons (.tup (.cons (.c (.str "of")) (.cons (.c (.str "v")) (.cons (.c (.str "u")) .nil)))) .nil))) (.c (.bl true))) (.cmp .Is (.call 16 (.cons uE (.cons (.tup (.cons (.c (.str "of")) (.cons (.c (.str "u")) (.cons (.c (.str "u")) .nil)))) .nil))) (.c (.bl false)))))
theorem t31 : T[31]? = some ⟨1, 15, .cons (.asg (.n 1) (.call 18 (.cons (.v 0) .nil))) (.cons lw2 (.cons lw3 (.cons lw4 (.cons lw5 (.cons lw6 (.cons lw7 (.cons lw8 .nil)))))))⟩ := rfl
theorem abc_is : biD .list [.str "abcdefghijklmnopqrstuvwxyz"] = some (.lst (abcL.map D.str)) := by
  have sm : small abcS.length = true := by decide +kernel
  have e : biD .list [.str abcS] = if small abcS.length = true then some (.lst (abcS.cps.toList.map fun c => D.str ⟨#[c]⟩)) else none := rfl
  have this : abcL.map D.str = abcS.cps.toList.map fun c => D.str ⟨#[c]⟩ := by rw [abcL, List.map_map]; rfl
  rw [this]
  show biD .list [.str abcS] = _
  rw [e, if_pos sm]
theorem abc_len : abcL.length = 26 := by decide +kernel
theorem abc_good : ∀ x ∈ abcL, nmOk x = true := fun x hx => abc_four x hx x List.mem_cons_self
theorem law_ok {cs : List Int} (hn : 130 ≤ n) (hn2 : n ≤ 800) (hw : 10000 ≤ w) : ∃ S', run T w (n + 4) 31 [.lst (cs.map D.int)] [] = some (.bl true, S') := by
  have e1 := shelf_ok (w := w) (n := n + 2) (k := 62) t18 (by decide) cs
  generalize cs.take 62 = c at e1
  generalize hv0 : D.lst (cs.map D.int) = v0 at *
  obtain ⟨tb, hb, z2, z7, z8, z9, z10, z11, z12, z13, c1, c2, c3, e2⟩ := laps_ok (w := w) (n := n) (c := c) (v0 := some v0) (v3 := none) (v4 := none) (v5 := none) (v6 := none) (v14 := none) hn hn2 hw ([0, 1, 2, 3].map D.int) 0 0 none none none none none none none none (by decide) (by decide) (by decide)
  generalize hS : [some (shelf c tb hb)] = S at *
  obtain ⟨y3, y14, e3⟩ := lt_loop (w := w) (n := n + 2) (v0 := some v0) (v1 := some (.ref 0)) (v2 := z2) (v4 := none) (v5 := none) (v6 := none) (v7 := z7) (v8 := z8) (v9 := z9) (v10 := z10) (v11 := z11) (v12 := z12) (v13 := z13) (by omega) (S := S) abcL none none fun x hx => hx
  obtain ⟨C, y6, gC, sC, dC, e4⟩ := nb_loop (w := w) (n := n + 2) (v0 := some v0) (v1 := some (.ref 0)) (v2 := z2) (v3 := y3) (v5 := some (.str "w")) (tl := [z7, z8, z9, z10, z11, z12, z13, y14]) (by omega) (S := S) (List.range 13) (.nm "w") none (fun i hi => List.mem_range.mp hi) (good_nm w_ok)
  obtain ⟨B, y3', gB, sB, dB, e5⟩ := le_loop (w := w) (F := run T w (n + 3)) (v0 := some v0) (v1 := some (.ref 0)) (v2 := z2) (v4 := some C.enc) (tl := [y6, z7, z8, z9, z10, z11, z12, z13, y14]) (S := S) abcL (.nm "w") y3 abc_good (good_nm w_ok)
  simp only [List.length_range, Wr.size, Wr.dp, abc_len] at sC dC sB dB
  have q1 := put_right (w := w) (n := n + 2) (good_of x_ok gC) w_ok (good_nm x_ok) (by simp only [Wr.size]; omega) (by decide) (by simp only [Wr.dp]; omega) (by decide) (by omega) (by omega) hw S
  have q2 := put_right (w := w) (n := n + 2) (good_of x_ok gB) w_ok (good_nm x_ok) (by simp only [Wr.size]; omega) (by decide) (by simp only [Wr.dp]; omega) (by decide) (by omega) (by omega) hw S
  have q1' : run T w (n + 2 + 1) 28 [.tup [.str "of", .str "x", C.enc], .str "w", .str "x"] S = some (.bl true, S) := q1
  have q2' : run T w (n + 2 + 1) 28 [.tup [.str "of", .str "x", B.enc], .str "w", .str "x"] S = some (.bl true, S) := q2
  have gU : Good (.of "u" (.nm "w")) := good_of u_ok (good_nm w_ok)
  obtain ⟨K, pk, ek⟩ := put_ok (w := w) (n := n + 2) gU w_ok (good_nm u_ok) (by decide) (by show 1 + 8 ≤ n + 2; omega) (by show 0 + 8 ≤ n + 2; omega) S
  obtain ⟨gK, dK, _, cK, _⟩ := pk
  have dK' : K.dp ≤ 1 := dK
  have f1 := ek _ _ (enc_T _) (enc_T _)
  have f1' : run T w (n + 2 + 1) 17 [.tup [.str "of", .str "u", .str "w"], .str "w", .str "u"] S = some (K.enc, S) := f1
  have gV : Good (.of "v" (.nm "u")) := good_of v_ok (good_nm u_ok)
  have gX : Good (.of "u" (.nm "u")) := good_of u_ok (good_nm u_ok)
  have f2 := alike_ok (w := w) (n := n + 2) (enc_T K) (enc_T _) gK gV (by omega) (by show 1 + 4 ≤ n + 2; omega) (by omega) S
  have f3 := alike_ok (w := w) (n := n + 2) (enc_T K) (enc_T _) gK gX (by omega) (by show 1 + 4 ≤ n + 2; omega) (by omega) S
  have k0 : cnt K [] = .of (.fr "u") := by rw [cK]; decide +kernel
  rw [k0, decide_eq_true (by decide +kernel)] at f2
  rw [k0, decide_eq_false (by decide +kernel)] at f3
  have f2' : run T w (n + 2 + 1) 16 [K.enc, .tup [.str "of", .str "v", .str "u"]] S = some (.bl true, S) := f2
  have f3' : run T w (n + 2 + 1) 16 [K.enc, .tup [.str "of", .str "u", .str "u"]] S = some (.bl false, S) := f3
  have ha : ∀ ρ S, ev (run T w (n + 3)) abE ρ S = some (.lst (abcL.map D.str), S) := fun ρ S => by
    simp only [abE, ev, evs, seeAll, see_str, abc_is]
  have hi : ∀ l : List D, items (.lst l) = some l := fun _ => rfl
  have s1 : ex (run T w (n + 3)) w (.asg (.n 1) (.call 18 (.cons (.v 0) .nil))) [some v0, none, none, none, none, none, none, none, none, none, none, none, none, none, none] [] = some (.nx [some v0, some (.ref 0), none, none, none, none, none, none, none, none, none, none, none, none, none], [some (shelf c 0 0)]) := by
    simp only [ex, ev, evs, List.getElem?_cons_zero, e1, setT, List.set_cons_succ, List.set_cons_zero]
  have s2 : ex (run T w (n + 3)) w lw2 [some v0, some (.ref 0), none, none, none, none, none, none, none, none, none, none, none, none, none] [some (shelf c 0 0)] = some (.nx [some v0, some (.ref 0), z2, none, none, none, none, z7, z8, z9, z10, z11, z12, z13, none], S) := by
    have hr : ∀ ρ S, ev (run T w (n + 3)) (.rng (.c (.int 0)) (.c (.int 4))) ρ S = some (.lst ([0, 1, 2, 3].map D.int), S) := fun _ _ => rfl
    rw [lw2, ex, hr]
    simp only [hi]
    exact e2
  have s3 : ex (run T w (n + 3)) w lw3 [some v0, some (.ref 0), z2, none, none, none, none, z7, z8, z9, z10, z11, z12, z13, none] S = some (.nx [some v0, some (.ref 0), z2, y3, none, none, none, z7, z8, z9, z10, z11, z12, z13, y14], S) := by
    rw [lw3, ex, ha]
    simp only [hi]
    exact e3
  have s4 : ex (run T w (n + 3)) w lw4 [some v0, some (.ref 0), z2, y3, none, none, none, z7, z8, z9, z10, z11, z12, z13, y14] S = some (.nx [some v0, some (.ref 0), z2, y3, some (Wr.nm "w").enc, some (.str "w"), none, z7, z8, z9, z10, z11, z12, z13, y14], S) := rfl
  have s5 : ex (run T w (n + 3)) w lw5 [some v0, some (.ref 0), z2, y3, some (Wr.nm "w").enc, some (.str "w"), none, z7, z8, z9, z10, z11, z12, z13, y14] S = some (.nx [some v0, some (.ref 0), z2, y3, some C.enc, some (Wr.nm "w").enc, y6, z7, z8, z9, z10, z11, z12, z13, y14], S) := by
    have hr : ∀ ρ S, ev (run T w (n + 3)) (.rng (.c (.int 0)) (.c (.int 13))) ρ S = some (.lst ((List.range 13).map fun (i : Nat) => D.int i), S) := fun _ _ => rfl
    rw [lw5, ex, hr]
    simp only [hi]
    exact e4
  have s6 : ex (run T w (n + 3)) w lw6 [some v0, some (.ref 0), z2, y3, some C.enc, some (Wr.nm "w").enc, y6, z7, z8, z9, z10, z11, z12, z13, y14] S = some (.nx [some v0, some (.ref 0), z2, y3', some C.enc, some B.enc, y6, z7, z8, z9, z10, z11, z12, z13, y14], S) := by
    rw [lw6, ex, ha]
    simp only [hi]
    exact e5
  have s7 : ex (run T w (n + 3)) w lw7 [some v0, some (.ref 0), z2, y3', some C.enc, some B.enc, y6, z7, z8, z9, z10, z11, z12, z13, y14] S = some (.nx [some v0, some (.ref 0), z2, y3', some C.enc, some B.enc, y6, z7, z8, z9, z10, z11, z12, z13, y14], S) := by
    simp only [lw7, ex, exs, ev, evs, List.getElem?_cons_zero, List.getElem?_cons_succ, sm_3, if_true, q1', q2', Bool.not_true]
  have s8 : ex (run T w (n + 3)) w lw8 [some v0, some (.ref 0), z2, y3', some C.enc, some B.enc, y6, z7, z8, z9, z10, z11, z12, z13, y14] S = some (.rt (.bl true), S) := by
    have z1 : cmpD .Is (.bl true) (.bl true) = some true := rfl
    have z2 : cmpD .Is (.bl false) (.bl false) = some true := rfl
    simp only [lw8, uE, ex, ev, evs, sm_3, if_true, f1', f2', f3', see_bl, z1, z2]
  refine ⟨_, run_rt t31 rfl (d := .bl true) (S1 := S) ?_⟩
  show exs _ _ (.cons (.asg (.n 1) (.call 18 (.cons (.v 0) .nil))) (.cons lw2 (.cons lw3 (.cons lw4 (.cons lw5 (.cons lw6 (.cons lw7 (.cons lw8 .nil)))))))) [some v0, none, none, none, none, none, none, none, none, none, none, none, none, none, none] [] = _
  rw [exs, s1]
  simp only []
  rw [exs, s2]
  simp only []
  rw [exs, s3]
  simp only []
  rw [exs, s4]
  simp only []
  rw [exs, s5]
  simp only []
  rw [exs, s6]
  simp only []
  rw [exs, s7]
  simp only []
  rw [exs, s8]
end Lk06

theorem PySem.Challenge.cw_timesagain_k06_put_in_without_catching_holds : PySem.Challenge.rw_timesagain_k06_put_in_without_catching.Holds :=
  Lk06.holds_of fun _ _ => Lk06.law_ok (n := 227) (w := 1000000) (by decide) (by decide) (by decide)
