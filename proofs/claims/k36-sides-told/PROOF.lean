import PyProof.Rows.All
import Wide.All
import OpenK.AllK
import Wide.FinOn
import HandS.ForMost
import HandS.HeadHook1
import HandS.TupAny
import HandS.Deep
import HandS.IsInst
import HandS.TupLe
import HandS.Flow
import HandS.Strs
import HandS.ExcOwn
import HandS.WordsExc
import HandS.Defaults
import HandS.Head0
import HandS.Head1
import HandS.Head2
import HandS.HeadEnd
import HandS.EndBits
import HandS.HeadHook2
import HandS.Style
import HandS.Conv
import HandS.Iter
import HandS.Zip
import KE.GoesMore
import PyProof.EnumMake
import HandS.TupSets
import PyProof.ReprLoop
import PySem.Challenge.RW_ropestakes_k36_sides_told
section
set_option Elab.async false
set_option linter.all false
set_option maxRecDepth 100000
/-! RsEval: data, a store of what may change, and an evaluator of the part of Python that is used here. Own work. -/
namespace Rs
open PySem

/-- data; ref: a cell of the store; exc: an exception of an own class; scr: the script -/
inductive D where
  | non
  | bl (b : Bool)
  | int (i : Int)
  | str (x : Str)
  | tup (xs : List D)
  | lst (xs : List D)
  | dct (kvs : List (D × D))
  | ref (k : Nat)
  | exc (c : Str)
  | scr (ns : List Int)

/-- what may change -/
inductive Cell where
  | lst (xs : List D)
  | dct (kvs : List (D × D))
  | ins (c : Str) (fs : List (Str × D))
  | dead
abbrev Store := List Cell

inductive R (α : Type) where
  | ok (a : α) (S : Store)
  | exc (c : Str) (S : Store)
  | bad
def R.bind {α β : Type} (r : R α) (f : α → Store → R β) : R β :=
  match r with
  | .ok a S => f a S
  | .exc c S => .exc c S
  | .bad => .bad
def R.of {α : Type} (o : Option α) (S : Store) : R α :=
  match o with
  | some a => .ok a S
  | none => .bad

/-! ### == of data -/
mutual
def eqv : D → D → Bool
  | .non, .non => true
  | .bl a, .bl b => a == b
  | .bl a, .int j => (if a then 1 else 0) == j
  | .int i, .bl b => i == (if b then 1 else 0)
  | .int i, .int j => i == j
  | .str x, .str y => x == y
  | .lst xs, .lst ys => eqvs xs ys
  | .tup xs, .tup ys => eqvs xs ys
  | _, _ => false
def eqvs : List D → List D → Bool
  | [], [] => true
  | x :: xs, y :: ys => eqv x y && eqvs xs ys
  | _, _ => false
end
/-- data without dicts, refs, exceptions, not too deep -/
def shd : Nat → D → Bool
  | _, .non => true
  | _, .bl _ => true
  | _, .int _ => true
  | _, .str x => PyData.strOk x
  | n + 1, .tup xs => xs.all (shd n)
  | n + 1, .lst xs => xs.all (shd n)
  | _, _ => false
/-- a list that may change, read at the top -/
def view (S : Store) : D → D
  | .ref k => match S[k]? with
    | some (.lst xs) => .lst xs
    | _ => .ref k
  | d => d
def DEP : Nat := 60
def eqD (S : Store) (a b : D) : Option Bool :=
  match a, b with
  | .str x, .str y => some (decide (x = y))
  | a, b => match shd DEP (view S a) && shd DEP (view S b) with
    | true => some (eqv (view S a) (view S b))
    | false => none

def seqOf (S : Store) (d : D) : Option (List D) :=
  match view S d with
  | .tup xs => some xs
  | .lst xs => some xs
  | .scr ns => some (ns.map .int)
  | _ => none
def LIM : Nat := 100000

def truth (S : Store) : D → Option Bool
  | .non => some false
  | .bl b => some b
  | .int i => some (i != 0)
  | .str x => if x.length ≤ LIM then some ((x.length : Int) != 0) else none
  | .tup xs => some (!xs.isEmpty)
  | .lst xs => some (!xs.isEmpty)
  | .ref k => match S[k]? with
    | some (.lst xs) => some (!xs.isEmpty)
    | _ => none
  | _ => none

/-! ### numbers -/
def BIG : Int := 18446744073709551616
def mulOk (i j : Int) : Bool := (decide (-BIG < i) && decide (i < BIG)) || (decide (-BIG < j) && decide (j < BIG))
inductive Bop where | add | sub | mul | fdiv | mod | pow
def intsD : List D → Option (List Int)
  | [] => some []
  | .int i :: r => (intsD r).map (i :: ·)
  | _ :: _ => none
def addD (S : Store) (d e : D) : Option D :=
  match d, e with
  | .int i, .int j => some (.int (i + j))
  | .str x, .str y => if x.length + y.length ≤ LIM then some (.str (x ++ y)) else none
  | .tup xs, .tup ys => if xs.length + ys.length ≤ LIM then some (.tup (xs ++ ys)) else none
  | a, b => match view S a, view S b with
    | .lst xs, .lst ys => if xs.length + ys.length ≤ LIM then some (.lst (xs ++ ys)) else none
    | _, _ => none
def subD (d e : D) : Option D :=
  match d, e with
  | .int i, .int j => some (.int (i - j))
  | _, _ => none
def mulD (S : Store) (d e : D) : Option D :=
  match d, e with
  | .int i, .int j => if mulOk i j then some (.int (i * j)) else none
  | a, .int k => match view S a with
    | .lst xs => if 0 ≤ k && k ≤ 1000 && xs.length ≤ 1000 then some (.lst (List.replicate k.toNat xs).flatten) else none
    | _ => none
  | _, _ => none
def fdivD (d e : D) : Option D :=
  match d, e with
  | .int i, .int j => if 0 < j && j < 1073741824 then some (.int (i / j)) else none
  | _, _ => none
def modD (d e : D) : Option D :=
  match d, e with
  | .int i, .int j => if 0 < j then some (.int (i % j)) else none
  | _, _ => none
def powD (d e : D) : Option D :=
  match d, e with
  | .int i, .int j => if 0 ≤ j && j ≤ 1000 && (decide (-BIG < i) && decide (i < BIG)) then some (.int (i ^ j.toNat)) else none
  | _, _ => none
def bops (S : Store) : Bop → D → D → Option D
  | .add => addD S
  | .sub => subD
  | .mul => mulD S
  | .fdiv => fdivD
  | .mod => modD
  | .pow => powD

/-! ### comparisons -/
inductive Cop where | eq | ne | lt | le | gt | ge | isin | nin | is | isnt
/-- the order of data: < where both are of one kind -/
def ltI (i j : Int) : Bool := decide (i < j)
mutual
def ltD : D → D → Option Bool
  | .int i, .int j => some (decide (i < j))
  | .tup xs, .tup ys => ltDs xs ys
  | _, _ => none
def ltDs : List D → List D → Option Bool
  | [], [] => some false
  | [], _ :: _ => some true
  | _ :: _, [] => some false
  | x :: xs, y :: ys => match eqv x y with
    | true => ltDs xs ys
    | false => ltD x y
end
def anyEq (x : D) (ys : List D) : Bool := ys.any fun y => eqv y x
def inD (S : Store) (a b : D) : Option Bool :=
  match a, b with
  | .str x, .str y => match x.cps.toList with
    | [c] => some (decide (c ∈ y.cps.toList))
    | _ => none
  | a, b => match view S b with
    | .lst xs => if shd DEP a && xs.all (shd DEP) then some (anyEq a xs) else none
    | .tup xs => if shd DEP a && xs.all (shd DEP) then some (anyEq a xs) else none
    | _ => none
def isD (a b : D) : Option Bool :=
  match b, a with
  | .non, .non => some true
  | .non, .exc _ => none
  | .non, _ => some false
  | .bl b, .bl a => some (decide (a = b))
  | _, _ => none
def ltO (d e : D) : Option Bool :=
  match d, e with
  | .int i, .int j => some (decide (i < j))
  | .tup xs, .tup ys => match intsD xs, intsD ys with
    | some ns, some ms => some (HT.lexLt ns ms)
    | _, _ => none
  | _, _ => none
def leO (d e : D) : Option Bool :=
  match d, e with
  | .int i, .int j => some (decide (i ≤ j))
  | _, _ => none
def gtO (d e : D) : Option Bool :=
  match d, e with
  | .int i, .int j => some (decide (j < i))
  | _, _ => none
def geO (d e : D) : Option Bool :=
  match d, e with
  | .int i, .int j => some (decide (j ≤ i))
  | _, _ => none
def cops (S : Store) : Cop → D → D → Option Bool
  | .eq, a, b => eqD S a b
  | .ne, a, b => (eqD S a b).map (!·)
  | .lt, a, b => ltO a b
  | .le, a, b => leO a b
  | .gt, a, b => gtO a b
  | .ge, a, b => geO a b
  | .isin, a, b => inD S a b
  | .nin, a, b => (inD S a b).map (!·)
  | .is, a, b => isD a b
  | .isnt, a, b => (isD a b).map (!·)

/-! ### places and slices -/
def cut {α : Type} (xs : List α) (lo hi : Option Int) : List α := (xs.drop (HT.sIx xs.length 0 lo)).take (HT.sIx xs.length xs.length hi - HT.sIx xs.length 0 lo)
def look (kvs : List (D × D)) (k : D) : Option D :=
  match kvs with
  | [] => none
  | (a, v) :: r => if eqv a k then some v else look r k
def putD (k v : D) : List (D × D) → List (D × D)
  | [] => [(k, v)]
  | (a, w) :: r => if eqv a k then (a, v) :: r else (a, w) :: putD k v r
def ixD (S : Store) (a i : D) : Option D :=
  match i with
  | .int i => match seqOf S a with
    | some xs => L2.atI xs i
    | none => match a with
      | .str x => if x.length ≤ LIM then (L2.atI x.cps.toList i).map fun c => .str ⟨#[c]⟩ else none
      | _ => none
  | _ => none
def slD (S : Store) (a : D) (lo hi : Option Int) : Option D :=
  match view S a with
  | .tup xs => some (.tup (cut xs lo hi))
  | .lst xs => some (.lst (cut xs lo hi))
  | .scr ns => some (.lst (cut (ns.map .int) lo hi))
  | .str x => if x.length ≤ LIM then some (.str (L2.cutS x lo hi)) else none
  | _ => none

/-! ### kinds -/
inductive Ty where | int | bool | str | tup | lst | own (c : Str)
def isi (S : Store) (excs : Str → Str → Option Bool) (d : D) (t : Ty) : Option Bool :=
  match t with
  | .own _ => none
  | .int => match view S d with
    | .bl _ => some true
    | .int _ => some true
    | .ref _ => none
    | .exc _ => none
    | _ => some false
  | .bool => match view S d with
    | .bl _ => some true
    | .ref _ => none
    | .exc _ => none
    | _ => some false
  | .str => match view S d with
    | .str _ => some true
    | .ref _ => none
    | .exc _ => none
    | _ => some false
  | .tup => match view S d with
    | .tup _ => some true
    | .ref _ => none
    | .exc _ => none
    | _ => some false
  | .lst => match view S d with
    | .lst _ => some true
    | .scr _ => some true
    | .ref _ => none
    | .exc _ => none
    | _ => some false

/-! ### built-in functions -/
inductive Blt where | len | abs | max | min | sum | all | any | sorted | tuple | list | int | str | repr | lenset | set
def bltsD : List D → Option (List Bool)
  | [] => some []
  | .bl b :: r => (bltsD r).map (b :: ·)
  | _ :: _ => none
def maxI : List Int → Option Int
  | [] => none
  | [i] => some i
  | i :: r => (maxI r).map fun m => if m > i then m else i
def minI : List Int → Option Int
  | [] => none
  | [i] => some i
  | i :: r => (minI r).map fun m => if m < i then m else i
/-! the data of the library -/
mutual
def toPy : D → PyData
  | .non => .none
  | .bl b => .bool b
  | .int i => .int i
  | .str x => .str x
  | .tup xs => .tuple (toPys xs)
  | .lst xs => .list (toPys xs)
  | .dct _ => .dict []
  | _ => .none
def toPys : List D → List PyData
  | [] => []
  | x :: xs => toPy x :: toPys xs
end
/-- data whose text is told: without refs; of dicts the empty one alone -/
def shw : Nat → D → Bool
  | _, .non => true
  | _, .bl _ => true
  | _, .int i => decide (i.natAbs < 2 ^ 1900)
  | _, .str _ => true
  | n + 1, .tup xs => xs.all (shw n)
  | n + 1, .lst xs => xs.all (shw n)
  | _, .dct kvs => kvs.isEmpty
  | _, _ => false
def insI (i : Int) : List Int → List Int
  | [] => [i]
  | j :: r => if i ≤ j then i :: j :: r else j :: insI i r
def sortI : List Int → List Int
  | [] => []
  | i :: r => insI i (sortI r)
def insD (x : D) : List D → Option (List D)
  | [] => some [x]
  | y :: r => match ltD y x with
    | some true => (insD x r).map (y :: ·)
    | some false => some (x :: y :: r)
    | none => none
def sortD : List D → Option (List D)
  | [] => some []
  | x :: r => (sortD r).bind (insD x)
def distinct : List D → Nat
  | [] => 0
  | x :: r => if anyEq x r then distinct r else distinct r + 1
/-- a tuple of whole numbers -/
def pairI : D → Bool
  | .tup xs => (intsD xs).isSome
  | _ => false
def lenD (S : Store) (ds : List D) : Option D :=
  match ds with
  | [d] => match seqOf S d with
    | some xs => some (.int xs.length)
    | none => match d with
      | .str x => if x.length ≤ LIM then some (.int x.length) else none
      | _ => none
  | _ => none
def absD (ds : List D) : Option D :=
  match ds with
  | [.int i] => some (.int (if i < 0 then -i else i))
  | _ => none
def maxD (S : Store) (ds : List D) : Option D :=
  match ds with
  | [.int i, .int j] => some (.int (if j > i then j else i))
  | [d] => match view S d with
    | .lst xs => (intsD xs).bind fun ns => (maxI ns).map .int
    | _ => none
  | _ => none
def minD (S : Store) (ds : List D) : Option D :=
  match ds with
  | [.int i, .int j] => some (.int (if j < i then j else i))
  | [d] => match view S d with
    | .lst xs => (intsD xs).bind fun ns => (minI ns).map .int
    | _ => none
  | _ => none
def sumD (S : Store) (ds : List D) : Option D :=
  match ds with
  | [d] => match view S d with
    | .lst xs => (intsD xs).map fun ns => .int ns.sum
    | _ => none
  | _ => none
def allD (S : Store) (ds : List D) : Option D :=
  match ds with
  | [d] => match view S d with
    | .lst xs => (bltsD xs).map fun bs => .bl (bs.all id)
    | _ => none
  | _ => none
def anyD (S : Store) (ds : List D) : Option D :=
  match ds with
  | [d] => match view S d with
    | .lst xs => (bltsD xs).map fun bs => .bl (bs.any id)
    | _ => none
  | _ => none
def sortedD (S : Store) (ds : List D) : Option D :=
  match ds with
  | [d] => match view S d with
    | .lst xs => if xs.length < 64 then (intsD xs).map fun ns => .lst ((sortI ns).map .int) else none
    | _ => none
  | _ => none
def tupleD (S : Store) (ds : List D) : Option D :=
  match ds with
  | [d] => match view S d with
    | .lst xs => some (.tup xs)
    | .tup xs => some (.tup xs)
    | _ => none
  | _ => none
def listD (S : Store) (ds : List D) : Option D :=
  match ds with
  | [d] => match view S d with
    | .lst xs => some (.lst xs)
    | .tup xs => some (.lst xs)
    | _ => none
  | _ => none
def intD (ds : List D) : Option D :=
  match ds with
  | [.int i] => some (.int i)
  | [.bl b] => some (.int (if b then 1 else 0))
  | _ => none
def strOfD (ds : List D) : Option D :=
  match ds with
  | [.int i] => if i.natAbs.log2 < 1920 then some (.str (toString i : String)) else none
  | _ => none
def lensetD (S : Store) (ds : List D) : Option D :=
  match ds with
  | [d] => match view S d with
    | .tup xs => if xs.length < 60 && xs.all pairI then some (.int (distinct xs)) else none
    | _ => none
  | _ => none
def reprD (S : Store) (ds : List D) : Option D :=
  match ds with
  | [d] => if shw 30 (view S d) && decide ((toPy (view S d)).shown.length ≤ LIM) then some (.str (toPy (view S d)).shown) else none
  | _ => none
def bltD (S : Store) : Blt → List D → Option D
  | .len => lenD S
  | .abs => absD
  | .max => maxD S
  | .min => minD S
  | .sum => sumD S
  | .all => allD S
  | .any => anyD S
  | .sorted => sortedD S
  | .tuple => tupleD S
  | .list => listD S
  | .int => intD
  | .str => strOfD
  | .repr => reprD S
  | .lenset => lensetD S
  | .set => fun _ => none

def cntD (S : Store) (a : D) (ds : List D) : Option D :=
  match view S a, ds with
  | .lst xs, [d] => if shd DEP d && xs.all (shd DEP) then some (.int ((xs.countP fun y => eqv y d : Nat) : Int)) else none
  | _, _ => none
def idxD (S : Store) (a : D) (ds : List D) : Option D :=
  match view S a, ds with
  | .lst xs, [d] => if shd DEP d && xs.all (shd DEP) then (xs.findIdx? fun y => eqv y d).map fun (i : Nat) => D.int (i : Int) else none
  | _, _ => none

/-! ### the text, compact -/
inductive Mth where | count | index
def mthD (S : Store) : Mth → D → List D → Option D
  | .count => cntD S
  | .index => idxD S
mutual
inductive E where
  | var (i : Nat)
  | cst (d : D)
  | glo (x : Str) (d : D)
  | tup (es : Es)
  | lst (es : Es)
  | dct (tk : Bool) (ks vs : Es)
  | mut (e : E)
  | bop (o : Bop) (a b : E)
  | neg (a : E)
  | cmp (o : Cop) (a b : E)
  | chn (o p : Cop) (a b c : E)
  | and (a b : E)
  | or (a b : E)
  | not (a : E)
  | ite (c a b : E)
  | ix (a b : E)
  | sl (a : E) (lo hi : Es)
  | rev (a : E)
  | call (f : Nat) (as : Es)
  | ckw (f : Nat) (as : Es) (perm : List Nat)
  | mk (c : Str) (f : Nat) (as : Es)
  | om (c m : Str) (f : Nat) (o : E) (as : Es)
  | fld (c : Str) (o : E) (f : Str)
  | blt (o : Blt) (as : Es)
  | rng (lt : Bool) (as : Es)
  | mth (o : Mth) (a : E) (as : Es)
  | app (a e : E)
  | ext (a e : E)
  | pop (a : E)
  | isi (a : E) (t : Ty)
  | lc (own : List Nat) (elt : E) (t : Tg) (it : It) (c : Es) (g : Gs)
  | frz (a : E)
inductive Es where
  | nil
  | cons (e : E) (es : Es)
inductive It where
  | of (e : E)
  | rng (es : Es)
  | enu (e : E)
  | zip (a b : E)
  | items (e : E)
inductive Gs where
  | nil
  | cons (t : Tg) (it : It) (c : Es) (g : Gs)
inductive Tg where
  | nm (i : Nat)
  | tup (ts : Tgs)
  | sub (o i : E)
  | fld (c : Str) (o : E) (f : Str)
inductive Tgs where
  | nil
  | cons (t : Tg) (ts : Tgs)
end

mutual
inductive C where
  | asg (t : Tg) (e : E)
  | par (ts : List Nat) (es : Es)
  | expr (e : E)
  | ret (e : E)
  | retN
  | pass
  | ite (c : E) (a b : Cs)
  | whl (c : E) (b : Cs)
  | fr (t : Tg) (it : It) (b : Cs)
  | brk
  | cnt
  | ras (x : Str)
  | tri (b : Cs) (x : Str) (s : Option Nat) (h : Cs)
inductive Cs where
  | nil
  | cons (c : C) (cs : Cs)
end

mutual
def slT : Tg → List Nat
  | .nm i => [i]
  | .tup ts => slTs ts
  | _ => []
def slTs : Tgs → List Nat
  | .nil => []
  | .cons t ts => slT t ++ slTs ts
end
def slG : Gs → List Nat
  | .nil => []
  | .cons t _ _ g => slT t ++ slG g
def tgsLen : Tgs → Nat
  | .nil => 0
  | .cons _ ts => tgsLen ts + 1
def esLen : Es → Nat
  | .nil => 0
  | .cons _ es => esLen es + 1
abbrev Nv := List (Option D)
/-- what a statement comes to -/
inductive Fl where
  | nx (env : Nv)
  | rt (d : D)
  | bk (env : Nv)
  | ct (env : Nv)
inductive RS where
  | ok (f : Fl) (S : Store)
  | exc (c : Str) (env : Nv) (S : Store)
  | bad

def wipeE (env : Nv) : List Nat → Nv
  | [] => env
  | v :: vs => (wipeE env vs).set v none

def getV (env : Nv) (i : Nat) : Option D :=
  match env[i]? with
  | some (some d) => some d
  | _ => none
def rangeI (a b : Int) : List D := (List.range (b - a).toNat).map fun (i : Nat) => D.int (a + (i : Int))
def rangeC (a c : Int) : Nat → List D
  | 0 => []
  | n + 1 => .int a :: rangeC (a + c) c n
def rngD : List D → Option (List D)
  | [.int j] => if -1000000 ≤ j && j ≤ 1000000 then some (rangeI 0 j) else none
  | [.int i, .int j] => if -1000000 ≤ i && i ≤ 1000000 && -1000000 ≤ j && j ≤ 1000000 then some (rangeI i j) else none
  | [.int i, .int j, .int c] => if -1000000 ≤ i && i ≤ 1000000 && -1000000 ≤ j && j ≤ 1000000 && c == -1 then some (rangeC i (-1) (i - j).toNat) else none
  | _ => none
def enuD : Nat → List D → List D
  | _, [] => []
  | n, x :: r => .tup [.int n, x] :: enuD (n + 1) r
def zipD : List D → List D → List D
  | x :: xs, y :: ys => .tup [x, y] :: zipD xs ys
  | _, _ => []
def strD (x : Str) : List D := x.cps.toList.map fun c => .str ⟨#[c]⟩

/-- the loop of a comprehension -/
def compL (f : D → Store → R (List D)) : List D → Store → R (List D)
  | [], S => .ok [] S
  | d :: ds, S => match f d S with
    | .ok xs S1 => match compL f ds S1 with
      | .ok ys S2 => .ok (xs ++ ys) S2
      | _ => .bad
    | _ => .bad

/-- what the evaluator leans on: calls of own defs, subclasses among the own classes -/
structure Fx where
  F : Nat → List D → Store → R D
  sub : Str → Str → Option Bool

/-- deep freezing of what lies at n and beyond -/
def fzD (S : Store) (n : Nat) : Nat → D → Option D
  | 0, _ => none
  | m + 1, .tup xs => (xs.mapM (fzD S n m)).map .tup
  | m + 1, .lst xs => (xs.mapM (fzD S n m)).map .lst
  | m + 1, .ref k => if k < n then some (.ref k) else match S[k]? with
    | some (.lst xs) => (xs.mapM (fzD S n m)).map .lst
    | _ => none
  | _, .dct _ => none
  | _, .exc _ => none
  | _, d => some d
/-- no ref at n or beyond -/
def below (n : Nat) : Nat → D → Bool
  | 0, _ => false
  | m + 1, .tup xs => xs.all (below n m)
  | m + 1, .lst xs => xs.all (below n m)
  | _, .dct _ => false
  | _, .ref k => decide (k < n)
  | _, _ => true
def cellBelow (n : Nat) : Cell → Bool
  | .lst xs => xs.all (below n DEP)
  | .dct _ => false
  | .ins _ fs => fs.all fun p => below n DEP p.2
  | .dead => true

def putFs (f : Str) (v : D) : List (Str × D) → List (Str × D)
  | [] => [(f, v)]
  | (g, w) :: r => if f == g then (g, v) :: r else (g, w) :: putFs f v r
section
variable (X : Fx)
mutual
def evE : E → Nv → Store → R D
  | .var i, env, S => R.of (getV env i) S
  | .cst d, _, S => .ok d S
  | .glo _ d, _, S => .ok d S
  | .tup es, env, S => (evEs es env S).bind fun ds S => if ds.length ≤ LIM then .ok (.tup ds) S else .bad
  | .lst es, env, S => (evEs es env S).bind fun ds S => if ds.length ≤ LIM then .ok (.lst ds) S else .bad
  | .dct _ ks vs, env, S => match ks, vs with
    | .nil, .nil => .ok (.dct []) S
    | .cons k .nil, .cons v .nil => (evE k env S).bind fun a S => (evE v env S).bind fun b S => .ok (.dct [(a, b)]) S
    | _, _ => .bad
  | .mut e, env, S => (evE e env S).bind fun x S => match x with
    | .lst xs => .ok (.ref S.length) (S ++ [.lst xs])
    | .dct kvs => .ok (.ref S.length) (S ++ [.dct kvs])
    | _ => .bad
  | .bop o a b, env, S => (evE a env S).bind fun x S => (evE b env S).bind fun y S => R.of (bops S o x y) S
  | .neg a, env, S => (evE a env S).bind fun x S => match x with
    | .int i => .ok (.int (-i)) S
    | _ => .bad
  | .cmp o a b, env, S => (evE a env S).bind fun x S => (evE b env S).bind fun y S => R.of ((cops S o x y).map .bl) S
  | .chn o p a b c, env, S => (evE a env S).bind fun x S => (evE b env S).bind fun y S => match cops S o x y with
    | some true => (evE c env S).bind fun z S => R.of ((cops S p y z).map .bl) S
    | some false => .ok (.bl false) S
    | none => .bad
  | .and a b, env, S => (evE a env S).bind fun x S => match truth S x with
    | some true => evE b env S
    | some false => .ok x S
    | none => .bad
  | .or a b, env, S => (evE a env S).bind fun x S => match truth S x with
    | some true => .ok x S
    | some false => evE b env S
    | none => .bad
  | .not a, env, S => (evE a env S).bind fun x S => match truth S x with
    | some b => .ok (.bl (!b)) S
    | none => .bad
  | .ite c a b, env, S => (evE c env S).bind fun x S => match truth S x with
    | some true => evE a env S
    | some false => evE b env S
    | none => .bad
  | .ix a b, env, S => (evE a env S).bind fun x S => (evE b env S).bind fun y S => R.of (ixD S x y) S
  | .sl a lo hi, env, S => (evE a env S).bind fun x S => (evPt lo env S).bind fun l S => (evPt hi env S).bind fun h S => R.of (slD S x l h) S
  | .rev a, env, S => (evE a env S).bind fun x S => match view S x with
    | .tup xs => .ok (.tup xs.reverse) S
    | .lst xs => .ok (.lst xs.reverse) S
    | _ => .bad
  | .call f as, env, S => (evEs as env S).bind fun ds S => X.F f ds S
  | .ckw f as perm, env, S => (evEs as env S).bind fun ds S => match perm.mapM fun i => ds[i]? with
    | some ds => X.F f ds S
    | none => .bad
  | .mk c f as, env, S => (evEs as env S).bind fun ds S => (X.F f (.ref S.length :: ds) (S ++ [.ins c []])).bind fun _ S' => .ok (.ref S.length) S'
  | .om c _ f o as, env, S => (evE o env S).bind fun x S => match x with
    | .ref k => match S[k]? with
      | some (.ins c' _) => if c' == c then (evEs as env S).bind fun ds S => X.F f (.ref k :: ds) S else .bad
      | _ => .bad
    | _ => .bad
  | .fld c o f, env, S => (evE o env S).bind fun x S => match x with
    | .ref k => match S[k]? with
      | some (.ins c' fs) => if c' == c then R.of (fs.lookup f) S else .bad
      | _ => .bad
    | _ => .bad
  | .blt o as, env, S => (evEs as env S).bind fun ds S => R.of (bltD S o ds) S
  | .rng lt as, env, S => (evEs as env S).bind fun ds S => match rngD ds with
    | some xs => match lt with
      | true => .ok (.lst xs) S
      | false => .ok (.tup xs) S
    | none => .bad
  | .mth o a as, env, S => (evE a env S).bind fun x S => match view S x with
    | .lst _ => (evEs as env S).bind fun ds S => R.of (mthD S o x ds) S
    | _ => .bad
  | .app a e, env, S => (evE a env S).bind fun x S => match view S x with
    | .lst _ => (evE e env S).bind fun d S => match x with
      | .ref k => match S[k]? with
        | some (.lst xs) => if xs.length < LIM then .ok .non (S.set k (.lst (xs ++ [d]))) else .bad
        | _ => .bad
      | _ => .bad
    | _ => .bad
  | .ext a e, env, S => (evE a env S).bind fun x S => match view S x with
    | .lst _ => (evE e env S).bind fun d S => match x with
      | .ref k => match S[k]?, view S d with
        | some (.lst xs), .lst ys => if xs.length + ys.length ≤ LIM then .ok .non (S.set k (.lst (xs ++ ys))) else .bad
        | _, _ => .bad
      | _ => .bad
    | _ => .bad
  | .pop a, env, S => (evE a env S).bind fun x S => match x with
    | .ref k => match S[k]? with
      | some (.lst xs) => match xs[xs.length - 1]? with
        | some d => .ok d (S.set k (.lst xs.dropLast))
        | none => .bad
      | _ => .bad
    | _ => .bad
  | .isi a t, env, S => (evE a env S).bind fun x S => R.of ((isi S X.sub x t).map .bl) S
  | .lc own elt t it c g, env, S => (evIt it env S).bind fun items S =>
    match compL (fun d S => (bindT t d (wipeE env own) S).bind fun env1 S => (evTs c env1 S).bind fun b S => match b with
      | true => evGs g (fun e S => (evE elt e S).bind fun x S => .ok [x] S) env1 S
      | false => .ok [] S) items S with
    | .ok ds S => if ds.length ≤ LIM then .ok (.lst ds) S else .bad
    | _ => .bad
  | .frz a, env, S => (evE a env S).bind fun x S => match x with
    | .ref k => match S[k]? with
      | some (.lst xs) => .ok (.lst xs) (S.set k .dead)
      | some (.dct xs) => .ok (.dct xs) (S.set k .dead)
      | _ => .bad
    | d => .ok d S
def evEs : Es → Nv → Store → R (List D)
  | .nil, _, S => .ok [] S
  | .cons e es, env, S => (evE e env S).bind fun d S => (evEs es env S).bind fun ds S => .ok (d :: ds) S
def evPt : Es → Nv → Store → R (Option Int)
  | .nil, _, S => .ok none S
  | .cons e .nil, env, S => (evE e env S).bind fun d S => match d with
    | .int i => .ok (some i) S
    | _ => .bad
  | _, _, _ => .bad
def evIt : It → Nv → Store → R (List D)
  | .of e, env, S => (evE e env S).bind fun x S => match x with
    | .tup xs => .ok xs S
    | .lst xs => .ok xs S
    | .str x => .ok (strD x) S
    | .scr ns => .ok (ns.map .int) S
    | _ => .bad
  | .rng es, env, S => (evEs es env S).bind fun ds S => R.of (rngD ds) S
  | .enu e, env, S => (evE e env S).bind fun x S => match x with
    | .tup xs => .ok (enuD 0 xs) S
    | .lst xs => .ok (enuD 0 xs) S
    | _ => .bad
  | .zip a b, env, S => (evE a env S).bind fun x S => (evE b env S).bind fun y S => match x, y with
    | .tup xs, .tup ys => .ok (zipD xs ys) S
    | .lst xs, .lst ys => .ok (zipD xs ys) S
    | _, _ => .bad
  | .items _, _, _ => .bad
def evGs : Gs → (Nv → Store → R (List D)) → Nv → Store → R (List D)
  | .nil, k, env, S => k env S
  | .cons t it c g, k, env, S => match evIt it env S with
    | .ok items S => compL (fun d S => (bindT t d (wipeE env (slT t ++ slG g)) S).bind fun env1 S => (evTs c env1 S).bind fun b S => match b with
      | true => evGs g k env1 S
      | false => .ok [] S) items S
    | _ => .bad
def evTs : Es → Nv → Store → R Bool
  | .nil, _, S => .ok true S
  | .cons q .nil, env, S => (evE q env S).bind fun b S => R.of (truth S b) S
  | _, _, _ => .bad
def bindT : Tg → D → Nv → Store → R Nv
  | .nm i, d, env, S => .ok (env.set i (some d)) S
  | .tup ts, d, env, S => match d with
    | .tup xs => if xs.length = tgsLen ts then bindTs ts xs env S else .bad
    | _ => .bad
  | .sub o i, d, env, S => (evE o env S).bind fun x S => (evE i env S).bind fun y S => match x with
    | .ref k => match S[k]? with
      | some (.lst xs) => match y with
        | .int j => match L2.ixN xs.length j with
          | some n => .ok env (S.set k (.lst (xs.set n d)))
          | none => .bad
        | _ => .bad
      | _ => .bad
    | _ => .bad
  | .fld c o f, d, env, S => (evE o env S).bind fun x S => match x with
    | .ref k => match S[k]? with
      | some (.ins c' fs) => if c' == c && decide (fs.length < 100) then .ok env (S.set k (.ins c (putFs f d fs))) else .bad
      | _ => .bad
    | _ => .bad
def bindTs : Tgs → List D → Nv → Store → R Nv
  | .nil, [], env, S => .ok env S
  | .cons t ts, d :: ds, env, S => match bindT t d env S with
    | .ok env S => match bindTs ts ds env S with
      | .ok env S => .ok env S
      | _ => .bad
    | _ => .bad
  | _, _, _, _ => .bad
end

/-! ### statements -/
def RS.of (r : R D) (env : Nv) (f : D → Store → RS) : RS :=
  match r with
  | .ok d S => f d S
  | .exc c S => .exc c env S
  | .bad => .bad
/-- a for over items; b: the body -/
def forL (t : Tg) (b : Nv → Store → RS) : List D → Nv → Store → RS
  | [], env, S => .ok (.nx env) S
  | d :: ds, env, S => match bindT X t d env S with
    | .ok env1 S1 => match b env1 S1 with
      | .ok (.nx e) S2 => forL t b ds e S2
      | .ok (.ct e) S2 => forL t b ds e S2
      | .ok (.bk e) S2 => .ok (.nx e) S2
      | r => r
    | .exc c S1 => .exc c env S1
    | .bad => .bad
/-- a while of at most so many turns -/
def whlL (c : E) (b : Nv → Store → RS) : Nat → Nv → Store → RS
  | 0, _, _ => .bad
  | n + 1, env, S => RS.of (evE X c env S) env fun x S => match truth S x with
    | some true => match b env S with
      | .ok (.nx e) S2 => whlL c b n e S2
      | .ok (.ct e) S2 => whlL c b n e S2
      | .ok (.bk e) S2 => .ok (.nx e) S2
      | r => r
    | some false => .ok (.nx env) S
    | none => .bad
def setAll : List Nat → List D → Nv → Option Nv
  | [], [], env => some env
  | i :: is, d :: ds, env => setAll is ds (env.set i (some d))
  | _, _, _ => none
def WHL : Nat := 100000
mutual
def evC : C → Nv → Store → RS
  | .asg t e, env, S => RS.of (evE X e env S) env fun d S => match bindT X t d env S with
    | .ok env1 S1 => .ok (.nx env1) S1
    | .exc c S1 => .exc c env S1
    | .bad => .bad
  | .par ts es, env, S => match evEs X es env S with
    | .ok ds S1 => match setAll ts ds env with
      | some env1 => .ok (.nx env1) S1
      | none => .bad
    | .exc c S1 => .exc c env S1
    | .bad => .bad
  | .expr e, env, S => RS.of (evE X e env S) env fun _ S => .ok (.nx env) S
  | .ret e, env, S => RS.of (evE X e env S) env fun d S => .ok (.rt d) S
  | .retN, _, S => .ok (.rt .non) S
  | .pass, env, S => .ok (.nx env) S
  | .ite c a b, env, S => RS.of (evE X c env S) env fun x S => match truth S x with
    | some true => evCs a env S
    | some false => evCs b env S
    | none => .bad
  | .whl c b, env, S => whlL X c (fun e S => evCs b e S) WHL env S
  | .fr t it b, env, S => match evIt X it env S with
    | .ok items S1 => forL X t (fun e S => evCs b e S) items env S1
    | .exc c S1 => .exc c env S1
    | .bad => .bad
  | .brk, env, S => .ok (.bk env) S
  | .cnt, env, S => .ok (.ct env) S
  | .ras x, env, S => .exc x env S
  | .tri b x s h, env, S => match evCs b env S with
    | .exc c e1 S1 => match X.sub c x with
      | some true => match s with
        | none => evCs h e1 S1
        | some i => match evCs h (e1.set i (some (.exc c))) S1 with
          | .ok (.nx e) S2 => .ok (.nx (e.set i none)) S2
          | r => r
      | _ => .bad
    | r => r
def evCs : Cs → Nv → Store → RS
  | .nil, env, S => .ok (.nx env) S
  | .cons c cs, env, S => match evC c env S with
    | .ok (.nx e) S1 => evCs cs e S1
    | r => r
end
end

/-! ### defs -/
/-- a def: how many parameters, how many names, its body; keep: what it makes may change later on -/
structure Fn where
  np : Nat
  nn : Nat
  keep : Bool
  body : Cs
def callFn (X : Fx) (f : Fn) (ds : List D) (S : Store) : R D :=
  if ds.length = f.np then
    match evCs X f.body (ds.map some ++ List.replicate (f.nn - ds.length) none) S with
    | .ok r S' =>
      let d := match r with
        | .rt d => d
        | _ => .non
      let okF := match r with
        | .rt _ => true
        | .nx _ => true
        | _ => false
      if okF then
        if f.keep then .ok d S'
        else match fzD S' S.length DEP d with
          | some d' => if (S'.take S.length).all (cellBelow S.length) then .ok d' (S'.take S.length) else .bad
          | none => .bad
      else .bad
    | .exc c _ S' => if f.keep then .exc c S' else if (S'.take S.length).all (cellBelow S.length) then .exc c (S'.take S.length) else .bad
    | .bad => .bad
  else .bad
/-- so many calls deep -/
def run (T : List Fn) (sub : Str → Str → Option Bool) : Nat → Nat → List D → Store → R D
  | 0, _, _, _ => .bad
  | k + 1, f, ds, S => match T[f]? with
    | some fn => callFn ⟨run T sub k, sub⟩ fn ds S
    | none => .bad
end Rs
end

section
set_option Elab.async false
set_option linter.all false
set_option maxRecDepth 100000
set_option maxHeartbeats 1000000
set_option autoImplicit false
/-! RsRel: how data lies in the abstract heap of the hand layer. Own work. -/
namespace Rs
open PySem PySem.Spec PyProof.Rows L2

/-- c: the cells' addresses, each with whether it may change; o: lists that are being made -/
structure Ads where
  c : List (Addr × Bool)
  o : List Addr
def Ads.live (A : Ads) (a : Addr) : Prop := (a, true) ∈ A.c ∨ a ∈ A.o
def Ads.add (A : Ads) (p : Addr) : Ads := { A with c := A.c ++ [(p, true)] }
def Ads.push (A : Ads) (p : Addr) : Ads := { A with o := p :: A.o }
def keyD : D → Option Key
  | .int i => some (.inl i)
  | .str x => some (.inr x)
  | _ => none
def keysD : D → Option (List Key)
  | .tup xs => xs.mapM keyD
  | _ => none

section
variable (K : PySem.W.Frag) (H : Hp) (A : Ads)
mutual
/-- v is the data d -/
def Rp : D → V → Prop
  | .non, v => v = .non
  | .bl b, v => v = .bl b
  | .int i, v => v = .int i
  | .str x, v => v = .str x
  | .tup ds, v => ∃ a vs, v = .ref a ∧ SqT K H a vs ∧ Rps ds vs
  | .lst ds, v => ∃ a vs, v = .ref a ∧ H a = some (.lst vs) ∧ ¬ A.live a ∧ Rps ds vs
  | .dct kvs, v => ∃ a, v = .ref a ∧ ¬ A.live a ∧ ((∃ kv, Rd H a (.dK kv) ∧ RpK kvs kv) ∨ ∃ kv, Rd H a (.dT kv) ∧ RpT kvs kv)
  | .ref k, v => ∃ a b, A.c[k]? = some (a, b) ∧ v = .ref a
  | .exc _, _ => False
  | .scr ns, v => ∃ a, v = .ref a ∧ ((Rd H a (.lst (ns.map V.int)) ∧ ¬ A.live a) ∨ ∀ H', SqL K H' a (ns.map V.int))
def Rps : List D → List V → Prop
  | [], vs => vs = []
  | d :: ds, vs => ∃ v r, vs = v :: r ∧ Rp d v ∧ Rps ds r
def RpK : List (D × D) → List (Key × V) → Prop
  | [], kv => kv = []
  | (k, d) :: r, kv => ∃ q v s, kv = (q, v) :: s ∧ keyD k = some q ∧ Rp d v ∧ RpK r s
def RpT : List (D × D) → List (List Key × V) → Prop
  | [], kv => kv = []
  | (k, d) :: r, kv => ∃ q v s, kv = (q, v) :: s ∧ keysD k = some q ∧ Rp d v ∧ RpT r s
end
end

/-- what stood stands, but for what may change -/
structure Ex (A : Ads) (H : Hp) (A' : Ads) (H' : Hp) : Prop where
  rd : ∀ a u, ¬ A.live a → Rd H a u → Rd H' a u
  ls : ∀ a vs, ¬ A.live a → H a = some (.lst vs) → H' a = some (.lst vs)
  pre : ∀ (k : Nat) (a : Addr) (b : Bool), A.c[k]? = some (a, b) → ∃ b', A'.c[k]? = some (a, b')
  new : ∀ a, A'.live a → A.live a ∨ H a = none
/-- and the lists that are being made -/
structure Ext (A : Ads) (H : Hp) (A' : Ads) (H' : Hp) : Prop extends Ex A H A' H' where
  own : A'.o = A.o
  ow : ∀ a, a ∈ A.o → H' a = H a
/-- and the lists that are being made, but for one -/
structure ExtD (D : Addr) (A : Ads) (H : Hp) (A' : Ads) (H' : Hp) : Prop extends Ex A H A' H' where
  own : A'.o = A.o
  ow : ∀ a, a ∈ A.o → a ≠ D → H' a = H a

theorem rd_ne {H : Hp} {a : Addr} {u : HO} (r : Rd H a u) : H a ≠ none := by
  rcases r with r | ⟨o, r⟩ <;> rw [r] <;> exact fun z => nomatch z
theorem rd_of_some {H : Hp} {a : Addr} (h : H a ≠ none) : ∃ u, Rd H a u := by
  cases q : H a with
  | none => exact absurd q h
  | some u => exact ⟨u, .inl q⟩
theorem Ex.refl (A : Ads) (H : Hp) : Ex A H A H := ⟨fun _ _ _ r => r, fun _ _ _ r => r, fun _ _ b h => ⟨b, h⟩, fun _ h => .inl h⟩
theorem Ext.refl (A : Ads) (H : Hp) : Ext A H A H := ⟨Ex.refl A H, rfl, fun _ _ => rfl⟩
theorem Ex.trans {A A1 A2 : Ads} {H H1 H2 : Hp} (x : Ex A H A1 H1) (y : Ex A1 H1 A2 H2) : Ex A H A2 H2 where
  rd := fun a u n r => by
    refine y.rd a u (fun z => ?_) (x.rd a u n r)
    rcases x.new a z with z | z
    · exact n z
    · exact rd_ne r z
  ls := fun a u n r => by
    refine y.ls a u (fun z => ?_) (x.ls a u n r)
    rcases x.new a z with z | z
    · exact n z
    · rw [z] at r; cases r
  pre := fun k a b h => by
    obtain ⟨b1, h1⟩ := x.pre k a b h
    exact y.pre k a b1 h1
  new := fun a h => by
    rcases y.new a h with h | h
    · exact x.new a h
    · by_cases hA : A.live a
      · exact .inl hA
      · refine .inr ?_
        by_cases q : H a = none
        · exact q
        · obtain ⟨u, r⟩ := rd_of_some q
          exact absurd h (rd_ne (x.rd a u hA r))

theorem Ext.trans {A A1 A2 : Ads} {H H1 H2 : Hp} (x : Ext A H A1 H1) (y : Ext A1 H1 A2 H2) : Ext A H A2 H2 where
  toEx := x.toEx.trans y.toEx
  own := y.own.trans x.own
  ow := fun a h => (y.ow a (by rw [x.own]; exact h)).trans (x.ow a h)
theorem Ext.toD {A A1 : Ads} {H H1 : Hp} (D : Addr) (x : Ext A H A1 H1) : ExtD D A H A1 H1 := ⟨x.toEx, x.own, fun a h _ => x.ow a h⟩
theorem ExtD.trans {D : Addr} {A A1 A2 : Ads} {H H1 H2 : Hp} (x : ExtD D A H A1 H1) (y : ExtD D A1 H1 A2 H2) : ExtD D A H A2 H2 where
  toEx := x.toEx.trans y.toEx
  own := y.own.trans x.own
  ow := fun a h n => (y.ow a (by rw [x.own]; exact h) n).trans (x.ow a h n)
theorem ExtD.refl (D : Addr) (A : Ads) (H : Hp) : ExtD D A H A H := (Ext.refl A H).toD D

section
variable {K : PySem.W.Frag} {H H' : Hp} {A A' : Ads}
/-- what may change is no tuple -/
def NoTup (H : Hp) (A : Ads) : Prop := ∀ a, A.live a → ∀ vs, ¬ Rd H a (.tup vs)
theorem Ex.sqT (x : Ex A H A' H') (hA : NoTup H A) {a : Addr} {vs : List V} (h : SqT K H a vs) : SqT K H' a vs := by
  rcases h with h | h
  · exact .inl (x.rd a _ (fun z => hA _ z vs h) h)
  · exact .inr h
mutual
theorem Rp.monoE (x : Ex A H A' H') (nt : NoTup H A) : ∀ (d : D) (v : V), Rp K H A d v → Rp K H' A' d v
  | .non, _, h => h
  | .bl _, _, h => h
  | .int _, _, h => h
  | .str _, _, h => h
  | .tup ds, v, h => by
    unfold Rp at h ⊢
    obtain ⟨a, vs, e, s, r⟩ := h
    exact ⟨a, vs, e, x.sqT nt s, Rps.monoE x nt ds vs r⟩
  | .lst ds, v, h => by
    unfold Rp at h ⊢
    obtain ⟨a, vs, e, s, n, r⟩ := h
    refine ⟨a, vs, e, x.ls a vs n s, fun z => ?_, Rps.monoE x nt ds vs r⟩
    rcases x.new a z with z | z
    · exact n z
    · rw [z] at s; cases s
  | .dct kvs, v, h => by
    unfold Rp at h ⊢
    obtain ⟨a, e, n, s⟩ := h
    refine ⟨a, e, fun z => ?_, ?_⟩
    · rcases x.new a z with z | z
      · exact n z
      · rcases s with ⟨_, s, _⟩ | ⟨_, s, _⟩ <;> exact rd_ne s z
    · rcases s with ⟨kv, s, r⟩ | ⟨kv, s, r⟩
      · exact .inl ⟨kv, x.rd a _ n s, RpK.monoE x nt kvs kv r⟩
      · exact .inr ⟨kv, x.rd a _ n s, RpT.monoE x nt kvs kv r⟩
  | .ref k, v, h => by
    unfold Rp at h ⊢
    obtain ⟨a, b, h1, h2⟩ := h
    obtain ⟨b', h3⟩ := x.pre k a b h1
    exact ⟨a, b', h3, h2⟩
  | .exc _, _, h => by unfold Rp at h; exact h.elim
  | .scr ns, v, h => by
    unfold Rp at h ⊢
    obtain ⟨a, e, s⟩ := h
    refine ⟨a, e, ?_⟩
    rcases s with ⟨s, n⟩ | s
    · refine .inl ⟨x.rd a _ n s, fun z => ?_⟩
      rcases x.new a z with z | z
      · exact n z
      · exact rd_ne s z
    · exact .inr s
theorem Rps.monoE (x : Ex A H A' H') (nt : NoTup H A) : ∀ (ds : List D) (vs : List V), Rps K H A ds vs → Rps K H' A' ds vs
  | [], _, h => h
  | d :: ds, vs, h => by
    unfold Rps at h ⊢
    obtain ⟨v, r, e, h1, h2⟩ := h
    exact ⟨v, r, e, Rp.monoE x nt d v h1, Rps.monoE x nt ds r h2⟩
theorem RpK.monoE (x : Ex A H A' H') (nt : NoTup H A) : ∀ (ds : List (D × D)) (vs : List (Key × V)), RpK K H A ds vs → RpK K H' A' ds vs
  | [], _, h => h
  | (k, d) :: ds, vs, h => by
    unfold RpK at h ⊢
    obtain ⟨q, v, r, e, h0, h1, h2⟩ := h
    exact ⟨q, v, r, e, h0, Rp.monoE x nt d v h1, RpK.monoE x nt ds r h2⟩
theorem RpT.monoE (x : Ex A H A' H') (nt : NoTup H A) : ∀ (ds : List (D × D)) (vs : List (List Key × V)), RpT K H A ds vs → RpT K H' A' ds vs
  | [], _, h => h
  | (k, d) :: ds, vs, h => by
    unfold RpT at h ⊢
    obtain ⟨q, v, r, e, h0, h1, h2⟩ := h
    exact ⟨q, v, r, e, h0, Rp.monoE x nt d v h1, RpT.monoE x nt ds r h2⟩
end

theorem Rp.mono (x : Ext A H A' H') (nt : NoTup H A) (d : D) (v : V) (h : Rp K H A d v) : Rp K H' A' d v := Rp.monoE x.toEx nt d v h
theorem Rps.mono (x : Ext A H A' H') (nt : NoTup H A) (d : List D) (v : List V) (h : Rps K H A d v) : Rps K H' A' d v := Rps.monoE x.toEx nt d v h
theorem RpK.mono (x : Ext A H A' H') (nt : NoTup H A) (d : List (D × D)) (v : List (Key × V)) (h : RpK K H A d v) : RpK K H' A' d v := RpK.monoE x.toEx nt d v h
theorem RpT.mono (x : Ext A H A' H') (nt : NoTup H A) (d : List (D × D)) (v : List (List Key × V)) (h : RpT K H A d v) : RpT K H' A' d v := RpT.monoE x.toEx nt d v h

/-! ### lists of data -/
theorem Rps.nil : Rps K H A [] [] := rfl
theorem Rps.cons {d : D} {v : V} {ds : List D} {vs : List V} (h : Rp K H A d v) (r : Rps K H A ds vs) : Rps K H A (d :: ds) (v :: vs) := by
  unfold Rps; exact ⟨v, vs, rfl, h, r⟩
theorem Rps.inv {d : D} {ds : List D} {vs : List V} (h : Rps K H A (d :: ds) vs) : ∃ v r, vs = v :: r ∧ Rp K H A d v ∧ Rps K H A ds r := by
  unfold Rps at h; exact h
theorem Rps.length : ∀ {ds : List D} {vs : List V}, Rps K H A ds vs → ds.length = vs.length
  | [], _, h => by unfold Rps at h; rw [h]; rfl
  | d :: ds, _, h => by
    obtain ⟨v, r, e, _, h2⟩ := h.inv
    rw [e, List.length_cons, List.length_cons, Rps.length h2]
theorem Rps.get : ∀ {ds : List D} {vs : List V} {i : Nat} {d : D}, Rps K H A ds vs → ds[i]? = some d → ∃ v, vs[i]? = some v ∧ Rp K H A d v
  | [], _, _, _, _, e => by simp at e
  | d :: ds, vs, 0, _, h, e => by
    obtain ⟨v, r, ev, h1, h2⟩ := h.inv
    simp at e; subst e; subst ev
    exact ⟨v, rfl, h1⟩
  | d :: ds, vs, i + 1, _, h, e => by
    obtain ⟨v, r, ev, h1, h2⟩ := h.inv
    subst ev
    obtain ⟨w, a, b⟩ := Rps.get (i := i) h2 (by simpa using e)
    exact ⟨w, by simpa using a, b⟩
theorem Rps.append : ∀ {ds es : List D} {vs us : List V}, Rps K H A ds vs → Rps K H A es us → Rps K H A (ds ++ es) (vs ++ us)
  | [], _, _, _, h, k => by unfold Rps at h; rw [h]; exact k
  | d :: ds, _, vs, _, h, k => by
    obtain ⟨v, r, e, h1, h2⟩ := h.inv
    subst e
    exact .cons h1 (Rps.append h2 k)
theorem Rps.take : ∀ (n : Nat) {ds : List D} {vs : List V}, Rps K H A ds vs → Rps K H A (ds.take n) (vs.take n)
  | 0, _, _, _ => by simp; exact Rps.nil
  | n + 1, [], _, h => by unfold Rps at h; rw [h]; exact Rps.nil
  | n + 1, d :: ds, _, h => by
    obtain ⟨v, r, e, h1, h2⟩ := h.inv
    subst e
    exact .cons h1 (Rps.take n h2)
theorem Rps.drop : ∀ (n : Nat) {ds : List D} {vs : List V}, Rps K H A ds vs → Rps K H A (ds.drop n) (vs.drop n)
  | 0, _, _, h => h
  | n + 1, [], _, h => by unfold Rps at h; rw [h]; exact Rps.nil
  | n + 1, d :: ds, _, h => by
    obtain ⟨v, r, e, h1, h2⟩ := h.inv
    subst e
    exact Rps.drop n h2
theorem Rps.cut {ds : List D} {vs : List V} (h : Rps K H A ds vs) (lo hi : Option Int) : Rps K H A (Rs.cut ds lo hi) (cutV vs lo hi) := by
  unfold Rs.cut cutV
  rw [h.length]
  exact (h.drop _).take _
theorem Rps.reverse : ∀ {ds : List D} {vs : List V}, Rps K H A ds vs → Rps K H A ds.reverse vs.reverse
  | [], _, h => by unfold Rps at h; rw [h]; exact Rps.nil
  | d :: ds, _, h => by
    obtain ⟨v, r, e, h1, h2⟩ := h.inv
    subst e
    rw [List.reverse_cons, List.reverse_cons]
    exact (Rps.reverse h2).append (.cons h1 .nil)
theorem Rps.set {d : D} {v : V} (h0 : Rp K H A d v) : ∀ (n : Nat) {ds : List D} {vs : List V}, Rps K H A ds vs → Rps K H A (ds.set n d) (vs.set n v)
  | _, [], _, h => by unfold Rps at h; rw [h]; exact Rps.nil
  | 0, _ :: ds, _, h => by
    obtain ⟨w, r, e, h1, h2⟩ := h.inv
    subst e
    exact .cons h0 h2
  | n + 1, _ :: ds, _, h => by
    obtain ⟨w, r, e, h1, h2⟩ := h.inv
    subst e
    exact .cons h1 (Rps.set h0 n h2)
theorem Rps.dropLast : ∀ {ds : List D} {vs : List V}, Rps K H A ds vs → Rps K H A ds.dropLast vs.dropLast := fun {ds vs} h => by
  rw [List.dropLast_eq_take, List.dropLast_eq_take, h.length]
  exact h.take _
theorem Rps.snoc {ds : List D} {vs : List V} {d : D} {v : V} (h : Rps K H A ds vs) (k : Rp K H A d v) : Rps K H A (ds ++ [d]) (vs ++ [v]) := h.append (.cons k .nil)
theorem Rps.flat {ds : List D} {vs : List V} (h : Rps K H A ds vs) : ∀ k : Nat, Rps K H A (List.replicate k ds).flatten (List.replicate k vs).flatten
  | 0 => Rps.nil
  | k + 1 => by
    rw [List.replicate_succ, List.replicate_succ, List.flatten_cons, List.flatten_cons]
    exact h.append (Rps.flat h k)
end

/-! ### names -/
def EnvR (K : PySem.W.Frag) (H : Hp) (A : Ads) (env : Nv) (σ : L2.St) : Prop :=
  σ.length = env.length ∧ ∀ (i : Nat) (d : D), env[i]? = some (some d) → ∃ v, σ[i]? = some (some v) ∧ Rp K H A d v
section
variable {K : PySem.W.Frag} {H H' : Hp} {A A' : Ads} {env : Nv} {σ : L2.St}
theorem EnvR.monoE (x : Ex A H A' H') (nt : NoTup H A) (h : EnvR K H A env σ) : EnvR K H' A' env σ :=
  ⟨h.1, fun i d e => let ⟨v, e1, r⟩ := h.2 i d e; ⟨v, e1, r.monoE x nt⟩⟩
theorem EnvR.mono (x : Ext A H A' H') (nt : NoTup H A) (h : EnvR K H A env σ) : EnvR K H' A' env σ := h.monoE x.toEx nt
theorem EnvR.get (h : EnvR K H A env σ) {i : Nat} {d : D} (e : getV env i = some d) : ∃ v, σ[i]? = some (some v) ∧ Rp K H A d v := by
  refine h.2 i d ?_
  unfold getV at e
  split at e
  · rename_i x q; cases e; exact q
  · cases e
theorem EnvR.set (h : EnvR K H A env σ) (i : Nat) {d : D} {v : V} (r : Rp K H A d v) : EnvR K H A (env.set i (some d)) (σ.set i (some v)) := by
  refine ⟨by simpa using h.1, fun j e q => ?_⟩
  by_cases hj : i = j
  · subst hj
    rw [List.getElem?_set] at q
    simp only [if_true] at q
    split at q
    · rename_i hl
      cases q
      exact ⟨v, by rw [List.getElem?_set_self (by rw [h.1]; exact hl)], r⟩
    · cases q
  · rw [List.getElem?_set_ne hj] at q
    obtain ⟨w, e1, r1⟩ := h.2 j e q
    exact ⟨w, by rw [List.getElem?_set_ne hj]; exact e1, r1⟩
theorem EnvR.unset (h : EnvR K H A env σ) (i : Nat) {o : Option V} : EnvR K H A (env.set i none) (σ.set i o) := by
  refine ⟨by simpa using h.1, fun j e q => ?_⟩
  by_cases hj : i = j
  · subst hj
    rw [List.getElem?_set] at q
    simp only [if_true] at q
    split at q <;> cases q
  · rw [List.getElem?_set_ne hj] at q
    obtain ⟨w, e1, r1⟩ := h.2 j e q
    exact ⟨w, by rw [List.getElem?_set_ne hj]; exact e1, r1⟩
theorem EnvR.wipe (h : EnvR K H A env σ) : ∀ vs : List Nat, EnvR K H A (wipeE env vs) (wipe σ vs)
  | [] => h
  | v :: vs => (EnvR.wipe h vs).unset v
/-- fewer names known -/
theorem EnvR.less {env' : Nv} (h : EnvR K H A env σ) (hl : env'.length = env.length) (hk : ∀ (i : Nat) (d : D), env'[i]? = some (some d) → env[i]? = some (some d)) : EnvR K H A env' σ :=
  ⟨by rw [hl]; exact h.1, fun i d e => h.2 i d (hk i d e)⟩
end

/-! ### the store -/
def CellR (K : PySem.W.Frag) (H : Hp) (A : Ads) (a : Addr) : Cell → Prop
  | .lst ds => ∃ vs, H a = some (.lst vs) ∧ Rps K H A ds vs
  | .dct kvs => (∃ kv, H a = some (.dK kv) ∧ RpK K H A kvs kv) ∨ ∃ kv, H a = some (.dT kv) ∧ RpT K H A kvs kv
  | .ins c fs => ∃ dx gs, H a = some (.ins (He.ga K c) dx gs) ∧ gs.length = fs.length ∧ ∀ f, match fs.lookup f with
    | some d => ∃ v, gs.lookup f = some v ∧ Rp K H A d v
    | none => gs.lookup f = none
  | .dead => True
def isDead : Cell → Bool
  | .dead => true
  | _ => false
structure SR (K : PySem.W.Frag) (H : Hp) (A : Ads) (S : Store) : Prop where
  len : A.c.length = S.length
  one : ∀ (i j : Nat) (a : Addr), A.c[i]? = some (a, true) → A.c[j]? = some (a, true) → i = j
  at_ : ∀ (k : Nat) (c : Cell) (a : Addr) (b : Bool), S[k]? = some c → A.c[k]? = some (a, b) → b = !isDead c ∧ CellR K H A a c
  mak : ∀ a, a ∈ A.o → (∃ vs, H a = some (.lst vs)) ∧ (a, true) ∉ A.c
section
variable {K : PySem.W.Frag} {H H' : Hp} {A A' : Ads} {S : Store}
theorem SR.cellAt (h : SR K H A S) {a : Addr} (ha : (a, true) ∈ A.c) : (∃ ds, H a = some (.lst ds)) ∨ (∃ kv, H a = some (.dK kv)) ∨ (∃ kv, H a = some (.dT kv)) ∨ ∃ C dx fs, H a = some (.ins C dx fs) := by
  obtain ⟨k, hk⟩ := List.getElem?_of_mem ha
  have hl : k < S.length := by
    have := (List.getElem?_eq_some_iff.mp hk).1
    rw [← h.len]; exact this
  obtain ⟨h1, h2⟩ := h.at_ k S[k] a true (by simp [hl]) hk
  cases e : S[k] with
  | lst ds =>
    rw [e] at h2
    obtain ⟨vs', q, _⟩ := h2
    exact .inl ⟨_, q⟩
  | dct kvs =>
    rw [e] at h2
    rcases h2 with ⟨kv, q, _⟩ | ⟨kv, q, _⟩
    · exact .inr (.inl ⟨_, q⟩)
    · exact .inr (.inr (.inl ⟨_, q⟩))
  | ins c fs =>
    rw [e] at h2
    obtain ⟨dx, gs, q, _⟩ := h2
    exact .inr (.inr (.inr ⟨_, _, _, q⟩))
  | dead =>
    rw [e] at h1
    cases h1
theorem SR.noTup (h : SR K H A S) : NoTup H A := by
  intro a ha vs r
  rcases ha with ha | ha
  · rcases h.cellAt ha with ⟨_, q⟩ | ⟨_, q⟩ | ⟨_, q⟩ | ⟨_, _, _, q⟩ <;> rcases r with r | ⟨o, r⟩ <;> (rw [q] at r; cases r)
  · obtain ⟨⟨_, q⟩, _⟩ := h.mak a ha
    rcases r with r | ⟨o, r⟩ <;> (rw [q] at r; cases r)
theorem SR.live (h : SR K H A S) {a : Addr} (ha : A.live a) : H a ≠ none := by
  rcases ha with ha | ha
  · rcases h.cellAt ha with ⟨_, q⟩ | ⟨_, q⟩ | ⟨_, q⟩ | ⟨_, _, _, q⟩ <;> (rw [q]; exact fun z => nomatch z)
  · obtain ⟨⟨_, q⟩, _⟩ := h.mak a ha
    rw [q]; exact fun z => nomatch z
theorem SR.get (h : SR K H A S) {k : Nat} {c : Cell} (e : S[k]? = some c) (n : isDead c = false) : ∃ a, A.c[k]? = some (a, true) ∧ CellR K H A a c := by
  have hl : k < A.c.length := by rw [h.len]; exact (List.getElem?_eq_some_iff.mp e).1
  obtain ⟨h1, h2⟩ := h.at_ k c A.c[k].1 A.c[k].2 e (by simp [hl])
  rw [n] at h1
  refine ⟨A.c[k].1, ?_, h2⟩
  rw [List.getElem?_eq_getElem hl, ← show A.c[k].2 = true from h1]
theorem CellR.monoE (x : Ex A H A' H') (nt : NoTup H A) {a : Addr} (hH : H' a = H a) : ∀ {c : Cell}, CellR K H A a c → CellR K H' A' a c
  | .lst ds, ⟨vs, h1, h2⟩ => ⟨vs, by rw [hH]; exact h1, h2.monoE x nt⟩
  | .dct kvs, h => by
    rcases h with ⟨kv, h1, h2⟩ | ⟨kv, h1, h2⟩
    · exact .inl ⟨kv, by rw [hH]; exact h1, h2.monoE x nt⟩
    · exact .inr ⟨kv, by rw [hH]; exact h1, h2.monoE x nt⟩
  | .ins c fs, ⟨dx, gs, h1, h2, h3⟩ => by
    refine ⟨dx, gs, by rw [hH]; exact h1, h2, fun f => ?_⟩
    have q := h3 f
    cases e : fs.lookup f with
    | none => rw [e] at q; exact q
    | some d =>
      rw [e] at q
      obtain ⟨v, e1, r⟩ := q
      exact ⟨v, e1, r.monoE x nt⟩
  | .dead, _ => trivial
theorem CellR.mono (x : Ext A H A' H') (nt : NoTup H A) {a : Addr} (hH : H' a = H a) {c : Cell} (h : CellR K H A a c) : CellR K H' A' a c := CellR.monoE x.toEx nt hH h
/-- the heap grows, what may change stays -/
theorem SR.mono (h : SR K H A S) (x : Ext A H A H') (hH : ∀ a, A.live a → H' a = H a) : SR K H' A S := by
  refine ⟨h.len, h.one, fun k c a b e1 e2 => ?_, fun a ha => ?_⟩
  · obtain ⟨h1, h2⟩ := h.at_ k c a b e1 e2
    refine ⟨h1, ?_⟩
    cases hd : isDead c with
    | true => cases c <;> first | trivial | cases hd
    | false =>
      rw [hd] at h1
      subst h1
      exact h2.mono x h.noTup (hH a (.inl (List.mem_of_getElem? e2)))
  · rw [hH a (.inr ha)]
    exact h.mak a ha
/-- a new object that does not change -/
theorem ext_new {p : Addr} {o : HO} (hp : H p = none) (ho : p ∉ A.o) : Ext A H A (upd H p o) where
  rd := fun a u _ r => by
    have : a ≠ p := fun z => rd_ne r (by rw [z]; exact hp)
    rcases r with r | ⟨o', r⟩
    · exact .inl (by rw [upd_ne this]; exact r)
    · exact .inr ⟨o', by rw [upd_ne this]; exact r⟩
  ls := fun a u _ r => by
    have : a ≠ p := fun z => by rw [z, hp] at r; cases r
    rw [upd_ne this]; exact r
  pre := fun _ _ b h => ⟨b, h⟩
  new := fun _ h => .inl h
  own := rfl
  ow := fun a h => upd_ne fun z => ho (by rw [← z]; exact h)
theorem SR.notO (h : SR K H A S) {p : Addr} (hp : H p = none) : p ∉ A.o := fun z => h.live (.inr z) hp
theorem SR.extNew (h : SR K H A S) {p : Addr} {o : HO} (hp : H p = none) : Ext A H A (upd H p o) := ext_new hp (h.notO hp)
theorem SR.new (h : SR K H A S) {p : Addr} {o : HO} (hp : H p = none) : SR K (upd H p o) A S :=
  h.mono (h.extNew hp) fun a ha => upd_ne fun z => h.live ha (by rw [z]; exact hp)
/-- a new cell -/
theorem ext_cell {p : Addr} {o : HO} (hp : H p = none) (ho : p ∉ A.o) : Ext A H (A.add p) (upd H p o) where
  rd := (ext_new hp ho).rd
  ls := (ext_new hp ho).ls
  pre := fun k a b h => ⟨b, by
    show (A.c ++ [(p, true)])[k]? = _
    rw [List.getElem?_append_left (List.getElem?_eq_some_iff.mp h).1]; exact h⟩
  new := fun a h => by
    rcases h with h | h
    · rcases List.mem_append.mp h with h | h
      · exact .inl (.inl h)
      · have e : (a, true) = (p, true) := by simpa using h
        cases e
        exact .inr hp
    · exact .inl (.inr h)
  own := rfl
  ow := (ext_new hp ho).ow
theorem SR.push (h : SR K H A S) {p : Addr} {o : HO} (hp : H p = none) {c : Cell} (hc : isDead c = false) (hr : CellR K (upd H p o) (A.add p) p c) : SR K (upd H p o) (A.add p) (S ++ [c]) := by
  have nt := h.noTup
  have x : Ext A H (A.add p) (upd H p o) := ext_cell hp (h.notO hp)
  have pA : (p, true) ∉ A.c := fun z => h.live (.inl z) hp
  have get_l : ∀ {i : Nat}, i < A.c.length → (A.add p).c[i]? = A.c[i]? := fun hi => List.getElem?_append_left hi
  have get_r : ∀ {i : Nat} {q : Addr × Bool}, ¬ i < A.c.length → (A.add p).c[i]? = some q → i = A.c.length ∧ q = (p, true) := fun {i q} hi h1 => by
    have h1 : (A.c ++ [(p, true)])[i]? = some q := h1
    rw [List.getElem?_append_right (by omega)] at h1
    cases q' : i - A.c.length with
    | zero => rw [q'] at h1; simp at h1; exact ⟨by omega, h1.symm⟩
    | succ n => rw [q'] at h1; simp at h1
  refine ⟨by show (A.c ++ [(p, true)]).length = _; simp [h.len], fun i j a h1 h2 => ?_, fun k d a b e1 e2 => ?_, fun a ha => ?_⟩
  · by_cases hi : i < A.c.length
    · rw [get_l hi] at h1
      by_cases hj : j < A.c.length
      · rw [get_l hj] at h2
        exact h.one i j a h1 h2
      · obtain ⟨_, e⟩ := get_r hj h2
        cases e
        exact absurd (List.mem_of_getElem? h1) pA
    · obtain ⟨hi1, e⟩ := get_r hi h1
      cases e
      by_cases hj : j < A.c.length
      · rw [get_l hj] at h2
        exact absurd (List.mem_of_getElem? h2) pA
      · obtain ⟨hj1, _⟩ := get_r hj h2
        omega
  · by_cases hk : k < S.length
    · rw [List.getElem?_append_left hk] at e1
      rw [get_l (by rw [h.len]; exact hk)] at e2
      obtain ⟨q1, q2⟩ := h.at_ k d a b e1 e2
      refine ⟨q1, ?_⟩
      cases hd : isDead d with
      | true => cases d <;> first | trivial | cases hd
      | false =>
        rw [hd] at q1
        have q1' : b = true := q1
        subst q1'
        refine q2.mono x nt (upd_ne fun z => pA ?_)
        rw [← z]
        exact List.mem_of_getElem? e2
    · rw [List.getElem?_append_right (by omega)] at e1
      obtain ⟨hk1, e⟩ := get_r (by rw [h.len]; exact hk) e2
      cases e
      have : k - S.length = 0 := by rw [hk1, h.len]; omega
      rw [this] at e1
      simp at e1
      subst e1
      exact ⟨by rw [hc]; rfl, hr⟩
  · obtain ⟨⟨vs, h1⟩, h2⟩ := h.mak a ha
    have ne : a ≠ p := fun z => by rw [z, hp] at h1; cases h1
    refine ⟨⟨vs, by rw [upd_ne ne]; exact h1⟩, fun z => ?_⟩
    rcases List.mem_append.mp z with z | z
    · exact h2 z
    · have e : (a, true) = (p, true) := by simpa using z
      exact ne (congrArg Prod.fst e)
/-- a cell is changed -/
theorem ext_upd {k : Nat} {a : Addr} {o : HO} (hk : A.c[k]? = some (a, true)) (ha : a ∉ A.o) : Ext A H A (upd H a o) where
  rd := fun b u n r => by
    have : b ≠ a := fun z => n (.inl (by rw [z]; exact List.mem_of_getElem? hk))
    rcases r with r | ⟨o', r⟩
    · exact .inl (by rw [upd_ne this]; exact r)
    · exact .inr ⟨o', by rw [upd_ne this]; exact r⟩
  ls := fun b u n r => by
    have : b ≠ a := fun z => n (.inl (by rw [z]; exact List.mem_of_getElem? hk))
    rw [upd_ne this]; exact r
  pre := fun _ _ b h => ⟨b, h⟩
  new := fun _ h => .inl h
  own := rfl
  ow := fun b h => upd_ne fun z => ha (by rw [← z]; exact h)
theorem SR.cNotO (h : SR K H A S) {k : Nat} {a : Addr} (hk : A.c[k]? = some (a, true)) : a ∉ A.o := fun z => (h.mak a z).2 (List.mem_of_getElem? hk)
theorem SR.extUpd (h : SR K H A S) {k : Nat} {a : Addr} {o : HO} (hk : A.c[k]? = some (a, true)) : Ext A H A (upd H a o) := ext_upd hk (h.cNotO hk)
theorem SR.set (h : SR K H A S) {k : Nat} {a : Addr} {o : HO} (hk : A.c[k]? = some (a, true)) {c : Cell} (hc : isDead c = false) (hr : CellR K (upd H a o) A a c) : SR K (upd H a o) A (S.set k c) := by
  have nt := h.noTup
  refine ⟨by simp [h.len], h.one, fun j d b t e1 e2 => ?_, fun b hb => ?_⟩
  · by_cases hj : k = j
    · subst hj
      rw [hk] at e2
      cases e2
      rw [List.getElem?_set] at e1
      simp only [if_true] at e1
      split at e1
      · cases e1
        exact ⟨by rw [hc]; rfl, hr⟩
      · cases e1
    · rw [List.getElem?_set_ne hj] at e1
      obtain ⟨q1, q2⟩ := h.at_ j d b t e1 e2
      refine ⟨q1, ?_⟩
      cases hd : isDead d with
      | true => cases d <;> first | trivial | cases hd
      | false =>
        rw [hd] at q1
        have q1' : t = true := q1
        subst q1'
        refine q2.mono (h.extUpd hk) nt (upd_ne fun z => ?_)
        subst z
        exact hj (h.one _ _ _ hk e2)
  · rw [upd_ne fun z => h.cNotO hk (by rw [← z]; exact hb)]
    exact h.mak b hb

/-! ### a list that is being made -/
theorem live_push {p a : Addr} : (A.push p).live a ↔ A.live a ∨ a = p := by
  unfold Ads.live Ads.push
  simp only [List.mem_cons]
  constructor
  · rintro (h | h | h)
    · exact .inl (.inl h)
    · exact .inr h
    · exact .inl (.inr h)
  · rintro ((h | h) | h)
    · exact .inl h
    · exact .inr (.inr h)
    · exact .inr (.inl h)
mutual
/-- fewer may change -/
theorem Rp.less (hc : A'.c = A.c) (hl : ∀ a, A'.live a → A.live a) : ∀ (d : D) (v : V), Rp K H A d v → Rp K H A' d v
  | .non, _, h => h
  | .bl _, _, h => h
  | .int _, _, h => h
  | .str _, _, h => h
  | .tup ds, v, h => by
    unfold Rp at h ⊢
    obtain ⟨a, vs, e, s, r⟩ := h
    exact ⟨a, vs, e, s, Rps.less hc hl ds vs r⟩
  | .lst ds, v, h => by
    unfold Rp at h ⊢
    obtain ⟨a, vs, e, s, n, r⟩ := h
    exact ⟨a, vs, e, s, fun z => n (hl a z), Rps.less hc hl ds vs r⟩
  | .dct kvs, v, h => by
    unfold Rp at h ⊢
    obtain ⟨a, e, n, s⟩ := h
    refine ⟨a, e, fun z => n (hl a z), ?_⟩
    rcases s with ⟨kv, s, r⟩ | ⟨kv, s, r⟩
    · exact .inl ⟨kv, s, RpK.less hc hl kvs kv r⟩
    · exact .inr ⟨kv, s, RpT.less hc hl kvs kv r⟩
  | .ref k, v, h => by
    unfold Rp at h ⊢
    rw [hc]
    exact h
  | .exc _, _, h => by unfold Rp at h; exact h.elim
  | .scr ns, v, h => by
    unfold Rp at h ⊢
    obtain ⟨a, e, s⟩ := h
    refine ⟨a, e, ?_⟩
    rcases s with ⟨s, n⟩ | s
    · exact .inl ⟨s, fun z => n (hl a z)⟩
    · exact .inr s
theorem Rps.less (hc : A'.c = A.c) (hl : ∀ a, A'.live a → A.live a) : ∀ (ds : List D) (vs : List V), Rps K H A ds vs → Rps K H A' ds vs
  | [], _, h => h
  | d :: ds, vs, h => by
    unfold Rps at h ⊢
    obtain ⟨v, r, e, h1, h2⟩ := h
    exact ⟨v, r, e, Rp.less hc hl d v h1, Rps.less hc hl ds r h2⟩
theorem RpK.less (hc : A'.c = A.c) (hl : ∀ a, A'.live a → A.live a) : ∀ (ds : List (D × D)) (vs : List (Key × V)), RpK K H A ds vs → RpK K H A' ds vs
  | [], _, h => h
  | (k, d) :: ds, vs, h => by
    unfold RpK at h ⊢
    obtain ⟨q, v, r, e, h0, h1, h2⟩ := h
    exact ⟨q, v, r, e, h0, Rp.less hc hl d v h1, RpK.less hc hl ds r h2⟩
theorem RpT.less (hc : A'.c = A.c) (hl : ∀ a, A'.live a → A.live a) : ∀ (ds : List (D × D)) (vs : List (List Key × V)), RpT K H A ds vs → RpT K H A' ds vs
  | [], _, h => h
  | (k, d) :: ds, vs, h => by
    unfold RpT at h ⊢
    obtain ⟨q, v, r, e, h0, h1, h2⟩ := h
    exact ⟨q, v, r, e, h0, Rp.less hc hl d v h1, RpT.less hc hl ds r h2⟩
end
mutual
/-- one more may change, of which nothing is known yet -/
theorem Rp.more {p : Addr} (hp : ∀ u, ¬ Rd H p u) : ∀ (d : D) (v : V), Rp K H A d v → Rp K H (A.push p) d v
  | .non, _, h => h
  | .bl _, _, h => h
  | .int _, _, h => h
  | .str _, _, h => h
  | .tup ds, v, h => by
    unfold Rp at h ⊢
    obtain ⟨a, vs, e, s, r⟩ := h
    exact ⟨a, vs, e, s, Rps.more hp ds vs r⟩
  | .lst ds, v, h => by
    unfold Rp at h ⊢
    obtain ⟨a, vs, e, s, n, r⟩ := h
    refine ⟨a, vs, e, s, fun z => ?_, Rps.more hp ds vs r⟩
    rcases live_push.mp z with z | z
    · exact n z
    · exact hp _ (.inl (by rw [← z]; exact s))
  | .dct kvs, v, h => by
    unfold Rp at h ⊢
    obtain ⟨a, e, n, s⟩ := h
    refine ⟨a, e, fun z => ?_, ?_⟩
    · rcases live_push.mp z with z | z
      · exact n z
      · subst z
        rcases s with ⟨_, s, _⟩ | ⟨_, s, _⟩ <;> exact hp _ s
    · rcases s with ⟨kv, s, r⟩ | ⟨kv, s, r⟩
      · exact .inl ⟨kv, s, RpK.more hp kvs kv r⟩
      · exact .inr ⟨kv, s, RpT.more hp kvs kv r⟩
  | .ref k, v, h => by
    unfold Rp at h ⊢
    exact h
  | .exc _, _, h => by unfold Rp at h; exact h.elim
  | .scr ns, v, h => by
    unfold Rp at h ⊢
    obtain ⟨a, e, s⟩ := h
    refine ⟨a, e, ?_⟩
    rcases s with ⟨s, n⟩ | s
    · refine .inl ⟨s, fun z => ?_⟩
      rcases live_push.mp z with z | z
      · exact n z
      · subst z; exact hp _ s
    · exact .inr s
theorem Rps.more {p : Addr} (hp : ∀ u, ¬ Rd H p u) : ∀ (ds : List D) (vs : List V), Rps K H A ds vs → Rps K H (A.push p) ds vs
  | [], _, h => h
  | d :: ds, vs, h => by
    unfold Rps at h ⊢
    obtain ⟨v, r, e, h1, h2⟩ := h
    exact ⟨v, r, e, Rp.more hp d v h1, Rps.more hp ds r h2⟩
theorem RpK.more {p : Addr} (hp : ∀ u, ¬ Rd H p u) : ∀ (ds : List (D × D)) (vs : List (Key × V)), RpK K H A ds vs → RpK K H (A.push p) ds vs
  | [], _, h => h
  | (k, d) :: ds, vs, h => by
    unfold RpK at h ⊢
    obtain ⟨q, v, r, e, h0, h1, h2⟩ := h
    exact ⟨q, v, r, e, h0, Rp.more hp d v h1, RpK.more hp ds r h2⟩
theorem RpT.more {p : Addr} (hp : ∀ u, ¬ Rd H p u) : ∀ (ds : List (D × D)) (vs : List (List Key × V)), RpT K H A ds vs → RpT K H (A.push p) ds vs
  | [], _, h => h
  | (k, d) :: ds, vs, h => by
    unfold RpT at h ⊢
    obtain ⟨q, v, r, e, h0, h1, h2⟩ := h
    exact ⟨q, v, r, e, h0, Rp.more hp d v h1, RpT.more hp ds r h2⟩
end
theorem CellR.less (hc : A'.c = A.c) (hl : ∀ a, A'.live a → A.live a) {a : Addr} : ∀ {c : Cell}, CellR K H A a c → CellR K H A' a c
  | .lst ds, ⟨vs, h1, h2⟩ => ⟨vs, h1, h2.less hc hl⟩
  | .dct kvs, h => by
    rcases h with ⟨kv, h1, h2⟩ | ⟨kv, h1, h2⟩
    · exact .inl ⟨kv, h1, h2.less hc hl⟩
    · exact .inr ⟨kv, h1, h2.less hc hl⟩
  | .ins c fs, ⟨dx, gs, h1, h2, h3⟩ => by
    refine ⟨dx, gs, h1, h2, fun f => ?_⟩
    have q := h3 f
    cases e : fs.lookup f with
    | none => rw [e] at q; exact q
    | some d =>
      rw [e] at q
      obtain ⟨v, e1, r⟩ := q
      exact ⟨v, e1, r.less hc hl⟩
  | .dead, _ => trivial
theorem CellR.more {p : Addr} (hp : ∀ u, ¬ Rd H p u) {a : Addr} : ∀ {c : Cell}, CellR K H A a c → CellR K H (A.push p) a c
  | .lst ds, ⟨vs, h1, h2⟩ => ⟨vs, h1, h2.more hp⟩
  | .dct kvs, h => by
    rcases h with ⟨kv, h1, h2⟩ | ⟨kv, h1, h2⟩
    · exact .inl ⟨kv, h1, h2.more hp⟩
    · exact .inr ⟨kv, h1, h2.more hp⟩
  | .ins c fs, ⟨dx, gs, h1, h2, h3⟩ => by
    refine ⟨dx, gs, h1, h2, fun f => ?_⟩
    have q := h3 f
    cases e : fs.lookup f with
    | none => rw [e] at q; exact q
    | some d =>
      rw [e] at q
      obtain ⟨v, e1, r⟩ := q
      exact ⟨v, e1, r.more hp⟩
  | .dead, _ => trivial
theorem EnvR.more {env : Nv} {σ : L2.St} {p : Addr} (hp : ∀ u, ¬ Rd H p u) (h : EnvR K H A env σ) : EnvR K H (A.push p) env σ :=
  ⟨h.1, fun i d e => let ⟨v, e1, r⟩ := h.2 i d e; ⟨v, e1, r.more hp⟩⟩
/-- a list that is being made is changed -/
theorem exD_upd {p : Addr} {vs : List V} (hp : p ∈ A.o) : ExtD p A H A (upd H p (.lst vs)) where
  rd := fun a u n r => by
    have : a ≠ p := fun z => n (.inr (by rw [z]; exact hp))
    rcases r with r | ⟨o', r⟩
    · exact .inl (by rw [upd_ne this]; exact r)
    · exact .inr ⟨o', by rw [upd_ne this]; exact r⟩
  ls := fun a u n r => by
    have : a ≠ p := fun z => n (.inr (by rw [z]; exact hp))
    rw [upd_ne this]; exact r
  pre := fun _ _ b h => ⟨b, h⟩
  new := fun _ h => .inl h
  own := rfl
  ow := fun a _ n => upd_ne n
theorem SR.upO (h : SR K H A S) {p : Addr} {vs : List V} (hp : p ∈ A.o) : SR K (upd H p (.lst vs)) A S := by
  refine ⟨h.len, h.one, fun k c a b e1 e2 => ?_, fun a ha => ?_⟩
  · obtain ⟨h1, h2⟩ := h.at_ k c a b e1 e2
    refine ⟨h1, ?_⟩
    cases hd : isDead c with
    | true => cases c <;> first | trivial | cases hd
    | false =>
      rw [hd] at h1
      subst h1
      have hne : a ≠ p := fun z => (h.mak p hp).2 (by rw [← z]; exact List.mem_of_getElem? e2)
      exact h2.monoE (exD_upd hp).toEx h.noTup (upd_ne hne)
  · obtain ⟨⟨us, h1⟩, h2⟩ := h.mak a ha
    by_cases e : a = p
    · subst e
      exact ⟨⟨vs, upd_same⟩, h2⟩
    · exact ⟨⟨us, by rw [upd_ne e]; exact h1⟩, h2⟩
/-- a new list is being made -/
theorem SR.mkO (h : SR K H A S) {p : Addr} {vs : List V} (hp : H p = none) : SR K (upd H p (.lst vs)) (A.push p) S := by
  have hr : ∀ u, ¬ Rd H p u := fun u r => rd_ne r hp
  have pA : (p, true) ∉ A.c := fun z => h.live (.inl z) hp
  have s1 := h.new (o := .lst vs) hp
  refine ⟨h.len, h.one, fun k c a b e1 e2 => ?_, fun a ha => ?_⟩
  · obtain ⟨h1, h2⟩ := h.at_ k c a b e1 e2
    refine ⟨h1, ?_⟩
    cases hd : isDead c with
    | true => cases c <;> first | trivial | cases hd
    | false =>
      rw [hd] at h1
      subst h1
      have hne : a ≠ p := fun z => pA (by rw [← z]; exact List.mem_of_getElem? e2)
      have nt : NoTup H (A.push p) := fun b hb vs r => by
        rcases live_push.mp hb with z | z
        · exact h.noTup b z vs r
        · exact hr _ (by rw [← z]; exact r)
      exact (h2.more hr).monoE (exD_upd (A := A.push p) List.mem_cons_self).toEx nt (upd_ne hne)
  · rcases List.mem_cons.mp ha with e | ha
    · subst e
      exact ⟨⟨vs, upd_same⟩, pA⟩
    · obtain ⟨⟨us, h1⟩, h2⟩ := h.mak a ha
      exact ⟨⟨us, by rw [upd_ne fun z => by rw [z, hp] at h1; cases h1]; exact h1⟩, h2⟩
theorem EnvR.mkO {env : Nv} {σ : L2.St} {p : Addr} {vs : List V} (h : EnvR K H A env σ) (s : SR K H A S) (hp : H p = none) : EnvR K (upd H p (.lst vs)) (A.push p) env σ := by
  have hr : ∀ u, ¬ Rd H p u := fun u r => rd_ne r hp
  have nt : NoTup H (A.push p) := fun b hb vs r => by
    rcases live_push.mp hb with z | z
    · exact s.noTup b z vs r
    · exact hr _ (by rw [← z]; exact r)
  exact (h.more hr).monoE (exD_upd (A := A.push p) List.mem_cons_self).toEx nt
theorem Rps.mkO {p : Addr} {us vs : List V} {ds : List D} (h : Rps K H A ds us) (s : SR K H A S) (hp : H p = none) : Rps K (upd H p (.lst vs)) (A.push p) ds us := by
  have hr : ∀ u, ¬ Rd H p u := fun u r => rd_ne r hp
  have nt : NoTup H (A.push p) := fun b hb vs r => by
    rcases live_push.mp hb with z | z
    · exact s.noTup b z vs r
    · exact hr _ (by rw [← z]; exact r)
  exact (h.more hr).monoE (exD_upd (A := A.push p) List.mem_cons_self).toEx nt
/-- it is made -/
def Ads.pop (A : Ads) : Ads := { A with o := A.o.tail }
theorem SR.pop {p : Addr} {o : List Addr} (h : SR K H A S) (ho : A.o = p :: o) : SR K H A.pop S := by
  have hl : ∀ a, A.pop.live a → A.live a := fun a ha => by
    rcases ha with ha | ha
    · exact .inl ha
    · exact .inr (List.mem_of_mem_tail ha)
  exact ⟨h.len, h.one, fun k c a b e1 e2 => ⟨(h.at_ k c a b e1 e2).1, CellR.less (A := A) (A' := A.pop) rfl hl (h.at_ k c a b e1 e2).2⟩, fun a ha => h.mak a (List.mem_of_mem_tail ha)⟩
theorem pop_ext {A1 : Ads} {H1 : Hp} {p : Addr} {vs : List V} (s0 : SR K H A S) (hp : H p = none) (x : ExtD p (A.push p) (upd H p (.lst vs)) A1 H1) {S1 : Store} (s1 : SR K H1 A1 S1) : Ext A H A1.pop H1 ∧ ¬ A1.pop.live p := by
  have ho : A1.o = p :: A.o := x.own
  have np : ¬ A1.pop.live p := fun ha => by
    rcases ha with ha | ha
    · exact (s1.mak p (by rw [ho]; exact List.mem_cons_self)).2 ha
    · have : p ∈ A.o := by
        have e : A1.pop.o = A.o := by show A1.o.tail = _; rw [ho]; rfl
        rw [e] at ha; exact ha
      exact s0.live (.inr this) hp
  refine ⟨⟨⟨fun a u n r => ?_, fun a u n r => ?_, fun k a b h => x.pre k a b h, fun a h => ?_⟩, ?_, fun a h => ?_⟩, np⟩
  · have ne : a ≠ p := fun z => rd_ne r (by rw [z]; exact hp)
    refine x.rd a u (fun z => ?_) ?_
    · rcases live_push.mp z with z | z
      · exact n z
      · exact ne z
    · rcases r with r | ⟨o', r⟩
      · exact .inl (by rw [upd_ne ne]; exact r)
      · exact .inr ⟨o', by rw [upd_ne ne]; exact r⟩
  · have ne : a ≠ p := fun z => by rw [z, hp] at r; cases r
    refine x.ls a u (fun z => ?_) (by rw [upd_ne ne]; exact r)
    rcases live_push.mp z with z | z
    · exact n z
    · exact ne z
  · have ne : a ≠ p := fun z => np (by rw [← z]; exact h)
    have h1 : A1.live a := by
      rcases h with h | h
      · exact .inl h
      · exact .inr (List.mem_of_mem_tail h)
    rcases x.new a h1 with q | q
    · rcases live_push.mp q with q | q
      · exact .inl q
      · exact absurd q ne
    · rw [upd_ne ne] at q
      exact .inr q
  · show A1.o.tail = A.o
    rw [ho]; rfl
  · have ne : a ≠ p := fun z => s0.live (.inr h) (by rw [z]; exact hp)
    rw [x.ow a (List.mem_cons_of_mem _ h) ne, upd_ne ne]
end
end Rs
end

section
set_option Elab.async false
set_option linter.all false
set_option maxRecDepth 100000
set_option maxHeartbeats 1000000
set_option autoImplicit false
/-! RsOps: operations by values, over data. Own work. -/
namespace Rs
open PySem PySem.Spec PyProof.Rows L2

/-- what a value d is to come to -/
def Out (K : PySem.W.Frag) (A : Ads) (H : Hp) (S : Store) (d : D) (Q : VK) : Prop :=
  ∀ v H' A', Ext A H A' H' → SR K H' A' S → Rp K H' A' d v → Q v H'
section
variable {K : PySem.W.Frag} {A A' : Ads} {H H' : Hp} {S : Store} {Q : VK}
theorem Out.here {d : D} {v : V} (h : Out K A H S d Q) (s : SR K H A S) (r : Rp K H A d v) : Q v H := h v H A (Ext.refl A H) s r
theorem Out.mono {d : D} (h : Out K A H S d Q) (x : Ext A H A' H') : Out K A' H' S d Q := fun v H2 A2 y s r => h v H2 A2 (x.trans y) s r
theorem Out.imp {d : D} {Q' : VK} (h : Out K A H S d Q) (k : ∀ v H', Q v H' → Q' v H') : Out K A H S d Q' := fun v H2 A2 y s r => k _ _ (h v H2 A2 y s r)
theorem rp_tup {a : Addr} {vs : List V} {ds : List D} (h : SqT K H a vs) (r : Rps K H A ds vs) : Rp K H A (.tup ds) (.ref a) := by
  unfold Rp; exact ⟨a, vs, rfl, h, r⟩
theorem rp_lst {a : Addr} {vs : List V} {ds : List D} (h : H a = some (.lst vs)) (n : ¬ A.live a) (r : Rps K H A ds vs) : Rp K H A (.lst ds) (.ref a) := by
  unfold Rp; exact ⟨a, vs, rfl, h, n, r⟩
theorem rp_int {i : Int} : Rp K H A (.int i) (.int i) := by unfold Rp; rfl
theorem rp_bl {b : Bool} : Rp K H A (.bl b) (.bl b) := by unfold Rp; rfl
theorem rp_str {x : Str} : Rp K H A (.str x) (.str x) := by unfold Rp; rfl
theorem rp_non : Rp K H A .non .non := by unfold Rp; rfl
theorem Rp.int {i : Int} {v : V} (h : Rp K H A (.int i) v) : v = .int i := by unfold Rp at h; exact h
theorem Rp.bl {b : Bool} {v : V} (h : Rp K H A (.bl b) v) : v = .bl b := by unfold Rp at h; exact h
theorem Rp.str {x : Str} {v : V} (h : Rp K H A (.str x) v) : v = .str x := by unfold Rp at h; exact h
theorem Rp.non {v : V} (h : Rp K H A .non v) : v = .non := by unfold Rp at h; exact h
theorem Rp.tup {ds : List D} {v : V} (h : Rp K H A (.tup ds) v) : ∃ a vs, v = .ref a ∧ SqT K H a vs ∧ Rps K H A ds vs := by unfold Rp at h; exact h
theorem Rp.lst {ds : List D} {v : V} (h : Rp K H A (.lst ds) v) : ∃ a vs, v = .ref a ∧ H a = some (.lst vs) ∧ ¬ A.live a ∧ Rps K H A ds vs := by unfold Rp at h; exact h
theorem Rp.ref {k : Nat} {v : V} (h : Rp K H A (.ref k) v) : ∃ a b, A.c[k]? = some (a, b) ∧ v = .ref a := by unfold Rp at h; exact h
theorem Rp.scr {ns : List Int} {v : V} (h : Rp K H A (.scr ns) v) : ∃ a, v = .ref a ∧ SqL K H a (ns.map V.int) := by
  unfold Rp at h
  obtain ⟨a, e, h⟩ := h
  refine ⟨a, e, ?_⟩
  rcases h with ⟨h, _⟩ | h
  · exact .inl h
  · exact h H
/-- a new tuple, a new list -/
theorem Out.tupN {ds : List D} {vs : List V} (h : Out K A H S (.tup ds) Q) (s : SR K H A S) (r : Rps K H A ds vs) {p : Addr} (hp : H p = none) : Q (.ref p) (upd H p (.tup vs)) :=
  h _ _ A (s.extNew hp) (s.new hp) (rp_tup (.inl (.inl upd_same)) (r.mono (s.extNew hp) s.noTup))
theorem Out.lstN {ds : List D} {vs : List V} (h : Out K A H S (.lst ds) Q) (s : SR K H A S) (r : Rps K H A ds vs) {p : Addr} (hp : H p = none) : Q (.ref p) (upd H p (.lst vs)) :=
  h _ _ A (s.extNew hp) (s.new hp) (rp_lst upd_same (fun z => s.live z hp) (r.mono (s.extNew hp) s.noTup))
/-- a list read at the top -/
theorem view_lst {d : D} {v : V} {xs : List D} (s : SR K H A S) (r : Rp K H A d v) (e : view S d = .lst xs) : ∃ a vs, v = .ref a ∧ H a = some (.lst vs) ∧ Rps K H A xs vs := by
  unfold view at e
  split at e
  · rename_i k
    split at e
    · rename_i q hq
      cases e
      obtain ⟨a, b, h1, h2⟩ := r.ref
      obtain ⟨a', h3, h4⟩ := s.get hq rfl
      rw [h1] at h3
      cases h3
      obtain ⟨vs, h5, h6⟩ := h4
      exact ⟨a, vs, h2, h5, h6⟩
    · cases e
  · rename_i d'
    subst e
    obtain ⟨a, vs, h1, h2, _, h3⟩ := r.lst
    exact ⟨a, vs, h1, h2, h3⟩
theorem view_tup {d : D} {xs : List D} (e : view S d = .tup xs) : d = .tup xs := by
  unfold view at e
  split at e
  · split at e <;> cases e
  · exact e
theorem view_scr {d : D} {ns : List Int} (e : view S d = .scr ns) : d = .scr ns := by
  unfold view at e
  split at e
  · split at e <;> cases e
  · exact e
theorem rps_ints : ∀ (ns : List Int), Rps K H A (ns.map D.int) (ns.map V.int)
  | [] => Rps.nil
  | n :: ns => .cons rp_int (rps_ints ns)
theorem seq_of {d : D} {v : V} {xs : List D} (s : SR K H A S) (r : Rp K H A d v) (e : seqOf S d = some xs) : ∃ a vs, v = .ref a ∧ (SqL K H a vs ∨ SqT K H a vs) ∧ Rps K H A xs vs := by
  unfold seqOf at e
  split at e
  · rename_i ys h
    cases e
    have h' := view_tup h
    subst h'
    obtain ⟨a, vs, h1, h2, h3⟩ := r.tup
    exact ⟨a, vs, h1, .inr h2, h3⟩
  · rename_i ys h
    cases e
    obtain ⟨a, vs, h1, h2, h3⟩ := view_lst s r h
    exact ⟨a, vs, h1, .inl (SqL.of h2), h3⟩
  · rename_i ns h
    cases e
    have h' := view_scr h
    subst h'
    obtain ⟨a, h1, h2⟩ := r.scr
    exact ⟨a, _, h1, .inl h2, rps_ints ns⟩
  · cases e
theorem lim_size {n : Nat} (h : n ≤ LIM) : n ≤ sizeLine := Nat.le_trans h (by decide)
end

/-! ### two-place operations -/
def rOp (K : PySem.W.Frag) (f : Store → D → D → Option D) : R2 := fun x y H Q => ∃ A S d e z, SR K H A S ∧ Rp K H A d x ∧ Rp K H A e y ∧ f S d e = some z ∧ Out K A H S z Q
theorem OpR.imp {X : Cx} {f : Value → Value → Sem Value} {r r' : R2} (h : OpR X f r) (k : ∀ x y H Q, r' x y H Q → r x y H Q) : OpR X f r' :=
  fun pins s σ H x y v u Q I rx ry q => h pins s σ H x y v u Q I rx ry (k x y H Q q)
/-- one of several rules, by the case at hand -/
theorem OpR.by {X : Cx} {f : Value → Value → Sem Value} {r : R2} (h : ∀ x y H Q, r x y H Q → ∃ r' : R2, OpR X f r' ∧ r' x y H Q) : OpR X f r :=
  fun pins s σ H x y v u Q I rx ry q => let ⟨_, h1, h2⟩ := h x y H Q q; h1 pins s σ H x y v u Q I rx ry h2
section
variable {X : Cx}
theorem op_addD : OpR X (binaryOp .Add) (rOp X.K addD) := OpR.by fun x y H Q ⟨A, S, d, e, z, s, rx, ry, hf, ho⟩ => by
  unfold addD at hf
  split at hf
  · cases hf
    rw [rx.int, ry.int]
    exact ⟨_, op_add, _, _, rfl, rfl, ho.here s rp_int⟩
  · split at hf
    · rename_i hl
      cases hf
      rw [rx.str, ry.str]
      exact ⟨_, op_add_str, _, _, rfl, rfl, lim_size hl, ho.here s rp_str⟩
    · cases hf
  · split at hf
    · rename_i xs ys hl
      cases hf
      obtain ⟨a, vs, rfl, h1, h2⟩ := rx.tup
      obtain ⟨b, us, rfl, h3, h4⟩ := ry.tup
      refine ⟨_, op_catA, a, b, vs, us, rfl, rfl, h1, h3, by rw [← h2.length, ← h4.length]; exact lim_size hl, fun e => ?_, fun _ e => ?_, fun _ _ p hp => ho.tupN s (h2.append h4) hp⟩
      · have : xs = [] := by have := h2.length; rw [e] at this; exact List.length_eq_zero_iff.mp this
        subst this
        exact ho.here s (rp_tup h3 h4)
      · have : ys = [] := by have := h4.length; rw [e] at this; exact List.length_eq_zero_iff.mp this
        subst this
        rw [List.append_nil] at ho
        exact ho.here s (rp_tup h1 h2)
    · cases hf
  · split at hf
    · rename_i xs ys e1 e2
      split at hf
      · rename_i hl
        cases hf
        obtain ⟨a, vs, rfl, h1, h2⟩ := view_lst s rx e1
        obtain ⟨b, us, rfl, h3, h4⟩ := view_lst s ry e2
        exact ⟨_, op_cat, a, b, vs, us, rfl, rfl, h1, h3, by rw [← h2.length, ← h4.length]; exact lim_size hl, fun p hp => ho.lstN s (h2.append h4) hp⟩
      · cases hf
    · cases hf
theorem op_subD : OpR X (binaryOp .Sub) (rOp X.K fun _ => subD) := OpR.by fun x y H Q ⟨A, S, d, e, z, s, rx, ry, hf, ho⟩ => by
  have hf : subD d e = some z := hf
  unfold subD at hf
  split at hf
  · cases hf
    rw [rx.int, ry.int]
    exact ⟨_, op_sub, _, _, rfl, rfl, ho.here s rp_int⟩
  · cases hf
theorem big_eq : (2 : Int) ^ 64 = BIG := by decide
theorem op_mulD : OpR X (binaryOp .Mult) (rOp X.K mulD) := OpR.by fun x y H Q ⟨A, S, d, e, z, s, rx, ry, hf, ho⟩ => by
  unfold mulD at hf
  split at hf
  · split at hf
    · rename_i hm
      cases hf
      rw [rx.int, ry.int]
      refine ⟨_, op_mul, _, _, rfl, rfl, ?_, ho.here s rp_int⟩
      unfold mulOk at hm
      simp only [Bool.or_eq_true, Bool.and_eq_true, decide_eq_true_eq] at hm
      unfold CMul
      rw [big_eq]
      exact hm
    · cases hf
  · split at hf
    · rename_i k _ _ xs e1
      split at hf
      · rename_i hl
        cases hf
        simp only [Bool.and_eq_true, decide_eq_true_eq] at hl
        obtain ⟨⟨h0, hk⟩, hx⟩ := hl
        obtain ⟨a, vs, rfl, h1, h2⟩ := view_lst s rx e1
        rw [ry.int]
        refine ⟨_, op_rep, a, k, vs, rfl, rfl, h1, by omega, by omega, ?_, fun p hp => ho.lstN s (h2.flat _) hp⟩
        rw [← h2.length, sizeLine_eq]
        have : k.toNat ≤ 1000 := by omega
        exact Nat.le_trans (Nat.mul_le_mul hx this) (by decide)
      · cases hf
    · cases hf
  · cases hf
theorem op_fdivD : OpR X (binaryOp .FloorDiv) (rOp X.K fun _ => fdivD) := OpR.by fun x y H Q ⟨A, S, d, e, z, s, rx, ry, hf, ho⟩ => by
  have hf : fdivD d e = some z := hf
  unfold fdivD at hf
  split at hf
  · split at hf
    · rename_i hm
      cases hf
      rw [rx.int, ry.int]
      simp only [Bool.and_eq_true, decide_eq_true_eq] at hm
      exact ⟨_, op_fdiv, _, _, rfl, rfl, hm, ho.here s rp_int⟩
    · cases hf
  · cases hf
theorem op_modD : OpR X (binaryOp .Mod) (rOp X.K fun _ => modD) := OpR.by fun x y H Q ⟨A, S, d, e, z, s, rx, ry, hf, ho⟩ => by
  have hf : modD d e = some z := hf
  unfold modD at hf
  split at hf
  · split at hf
    · rename_i hm
      cases hf
      rw [rx.int, ry.int]
      exact ⟨_, op_mod, _, _, rfl, rfl, hm, ho.here s rp_int⟩
    · cases hf
  · cases hf
theorem op_powD : OpR X (binaryOp .Pow) (rOp X.K fun _ => powD) := OpR.by fun x y H Q ⟨A, S, d, e, z, s, rx, ry, hf, ho⟩ => by
  have hf : powD d e = some z := hf
  unfold powD at hf
  split at hf
  · split at hf
    · rename_i hm
      cases hf
      rw [rx.int, ry.int]
      simp only [Bool.and_eq_true, decide_eq_true_eq] at hm
      obtain ⟨⟨h0, h1⟩, h2, h3⟩ := hm
      refine ⟨_, op_pow, _, _, rfl, rfl, ⟨h0, by omega, ?_⟩, ho.here s rp_int⟩
      unfold BIG at h2 h3
      have e : (2 : Nat) ^ 64 = 18446744073709551616 := by decide
      rw [e]
      omega
    · cases hf
  · cases hf
def opOf : Bop → Operator
  | .add => .Add
  | .sub => .Sub
  | .mul => .Mult
  | .fdiv => .FloorDiv
  | .mod => .Mod
  | .pow => .Pow
theorem op_bops : ∀ o : Bop, OpR X (binaryOp (opOf o)) (rOp X.K fun S => bops S o)
  | .add => op_addD
  | .sub => op_subD
  | .mul => op_mulD
  | .fdiv => op_fdivD
  | .mod => op_modD
  | .pow => op_powD
end

/-! ### == -/
mutual
theorem eqv_py : ∀ (d e : D) (n m : Nat), shd n d = true → shd m e = true → eqv d e = PyData.eqv (toPy d) (toPy e)
  | .non, e, n, m, _, h => by cases e <;> first | rfl | (cases m <;> cases h)
  | .bl _, e, n, m, _, h => by cases e <;> first | rfl | (cases m <;> cases h)
  | .int _, e, n, m, _, h => by cases e <;> first | rfl | (cases m <;> cases h)
  | .str _, e, n, m, _, h => by cases e <;> first | rfl | (cases m <;> cases h)
  | .tup xs, e, n, m, h, h' => by
    cases n with
    | zero => cases h
    | succ n => cases e <;> first | rfl | (cases m <;> first | (cases h'; done) | exact eqvs_py xs _ n _ h h')
  | .lst xs, e, n, m, h, h' => by
    cases n with
    | zero => cases h
    | succ n => cases e <;> first | rfl | (cases m <;> first | (cases h'; done) | exact eqvs_py xs _ n _ h h')
  | .dct _, _, n, _, h, _ => by cases n <;> cases h
  | .ref _, _, n, _, h, _ => by cases n <;> cases h
  | .exc _, _, n, _, h, _ => by cases n <;> cases h
  | .scr _, _, n, _, h, _ => by cases n <;> cases h
theorem eqvs_py : ∀ (xs ys : List D) (n m : Nat), xs.all (shd n) = true → ys.all (shd m) = true → eqvs xs ys = PyData.eqvAll (toPys xs) (toPys ys)
  | [], ys, _, _, _, _ => by cases ys <;> rfl
  | x :: xs, [], _, _, _, _ => rfl
  | x :: xs, y :: ys, n, m, h, h' => by
    rw [List.all_cons, Bool.and_eq_true] at h h'
    unfold eqvs toPys PyData.eqvAll
    rw [eqv_py x y n m h.1 h'.1, eqvs_py xs ys n m h.2 h'.2]
end
mutual
theorem lay_py : ∀ (d : D) (n : Nat), shd n d = true → (toPy d).canLay0 = true ∧ (toPy d).depth ≤ n
  | .non, _, _ => ⟨rfl, Nat.zero_le _⟩
  | .bl _, _, _ => ⟨rfl, Nat.zero_le _⟩
  | .int _, _, _ => ⟨rfl, Nat.zero_le _⟩
  | .str x, n, h => by
    refine ⟨?_, Nat.zero_le _⟩
    cases n <;> exact h
  | .tup xs, n, h => by
    cases n with
    | zero => cases h
    | succ n =>
      obtain ⟨h1, h2⟩ := lays_py xs n h
      exact ⟨h1, Nat.succ_le_succ h2⟩
  | .lst xs, n, h => by
    cases n with
    | zero => cases h
    | succ n =>
      obtain ⟨h1, h2⟩ := lays_py xs n h
      exact ⟨h1, Nat.succ_le_succ h2⟩
  | .dct _, n, h => by cases n <;> cases h
  | .ref _, n, h => by cases n <;> cases h
  | .exc _, n, h => by cases n <;> cases h
  | .scr _, n, h => by cases n <;> cases h
theorem lays_py : ∀ (xs : List D) (n : Nat), xs.all (shd n) = true → PyData.canLayAll0 (toPys xs) = true ∧ PyData.depthAll (toPys xs) ≤ n
  | [], _, _ => ⟨rfl, Nat.zero_le _⟩
  | x :: xs, n, h => by
    rw [List.all_cons, Bool.and_eq_true] at h
    obtain ⟨h1, h2⟩ := lay_py x n h.1
    obtain ⟨h3, h4⟩ := lays_py xs n h.2
    unfold toPys PyData.canLayAll0 PyData.depthAll
    exact ⟨by rw [h1, h3]; rfl, Nat.max_le.mpr ⟨h2, h4⟩⟩
end
theorem shaped_py {d : D} (h : shd DEP d = true) : SeqAt.shaped (toPy d) = true := by
  obtain ⟨h1, h2⟩ := lay_py d DEP h
  unfold SeqAt.shaped
  rw [h1, decide_eq_true (Nat.le_trans h2 (by decide : DEP ≤ 64))]
  rfl
section
variable {K : PySem.W.Frag} {A A' : Ads} {H H' : Hp} {S : Store} {Q : VK}
mutual
theorem dp_of : ∀ (d : D) (n : Nat) (v : V), shd n d = true → Rp K H A d v → Dp K H v (toPy d)
  | .non, _, _, _, r => by rw [r.non]; exact .non
  | .bl b, _, _, _, r => by rw [r.bl]; exact .bl b
  | .int i, _, _, _, r => by rw [r.int]; exact .int i
  | .str x, _, _, _, r => by rw [r.str]; exact .str x
  | .tup xs, n, _, h, r => by
    obtain ⟨a, vs, rfl, h1, h2⟩ := r.tup
    cases n with
    | zero => cases h
    | succ n => exact .tup h1 (dps_of xs n vs h h2)
  | .lst xs, n, _, h, r => by
    obtain ⟨a, vs, rfl, h1, _, h2⟩ := r.lst
    cases n with
    | zero => cases h
    | succ n => exact .lst (SqL.of h1) (dps_of xs n vs h h2)
  | .dct _, n, _, h, _ => by cases n <;> cases h
  | .ref _, n, _, h, _ => by cases n <;> cases h
  | .exc _, n, _, h, _ => by cases n <;> cases h
  | .scr _, n, _, h, _ => by cases n <;> cases h
theorem dps_of : ∀ (xs : List D) (n : Nat) (vs : List V), xs.all (shd n) = true → Rps K H A xs vs → DpAll K H vs (toPys xs)
  | [], _, _, _, r => by unfold Rps at r; rw [r]; exact .nil
  | x :: xs, n, _, h, r => by
    rw [List.all_cons, Bool.and_eq_true] at h
    obtain ⟨v, vs, rfl, h1, h2⟩ := r.inv
    exact .cons (dp_of x n v h.1 h1) (dps_of xs n vs h.2 h2)
end
/-- .. read at the top -/
theorem dp_view {d : D} {v : V} (s : SR K H A S) (h : shd DEP (view S d) = true) (r : Rp K H A d v) : Dp K H v (toPy (view S d)) := by
  cases e : view S d with
  | lst xs =>
    rw [e] at h
    obtain ⟨a, vs, rfl, h1, h2⟩ := view_lst s r e
    exact .lst (SqL.of h1) (dps_of xs 59 vs h h2)
  | tup xs =>
    have := view_tup e
    subst this
    rw [e] at h
    exact dp_of _ DEP _ h r
  | ref k => rw [e] at h; cases h
  | _ =>
    have : view S d = d := by
      unfold view at e ⊢
      split at e
      · split at e <;> cases e
      · rfl
    rw [← e]
    rw [this] at h ⊢
    exact dp_of _ DEP _ h r
end

section
variable {X : Cx}
def rTst (K : PySem.W.Frag) (f : Store → D → D → Option Bool) : R2 := fun x y H Q => ∃ A S d e z, SR K H A S ∧ Rp K H A d x ∧ Rp K H A e y ∧ f S d e = some z ∧ Q (.bl z) H
theorem dec_str (x y : Str) : decide (V.str x = V.str y) = decide (x = y) := by
  by_cases h : x = y
  · subst h; simp
  · rw [decide_eq_false h, decide_eq_false fun z => h (V.str.inj z)]
theorem op_eqDD (hu : X.A.units + 65 < cLine) : OpR X (compareOp .Eq) (rTst X.K eqD) := OpR.by fun x y H Q ⟨A, S, d, e, z, s, rx, ry, hf, q⟩ => by
  unfold eqD at hf
  split at hf
  · rename_i a b
    cases hf
    rw [rx.str, ry.str]
    exact ⟨_, op_eq, rfl, by rw [dec_str]; exact q⟩
  · split at hf
    · rename_i h
      cases hf
      rw [Bool.and_eq_true] at h
      refine ⟨_, op_eqD (by omega), _, _, dp_view s h.1 rx, dp_view s h.2 ry, shaped_py h.1, shaped_py h.2, ?_⟩
      rw [← eqv_py _ _ _ _ h.1 h.2]
      exact q
    · cases hf
theorem op_neDD (hu : X.A.units + 65 < cLine) : OpR X (compareOp .NotEq) (rTst X.K fun S a b => (eqD S a b).map (!·)) := OpR.by fun x y H Q ⟨A, S, d, e, z, s, rx, ry, hf, q⟩ => by
  have hf : (eqD S d e).map (!·) = some z := hf
  unfold eqD at hf
  split at hf
  · rename_i a b
    cases hf
    rw [rx.str, ry.str]
    exact ⟨_, op_ne, rfl, by rw [dec_str]; exact q⟩
  · split at hf
    · rename_i h
      cases hf
      rw [Bool.and_eq_true] at h
      refine ⟨_, op_neD (by omega), _, _, dp_view s h.1 rx, dp_view s h.2 ry, shaped_py h.1, shaped_py h.2, ?_⟩
      rw [← eqv_py _ _ _ _ h.1 h.2]
      exact q
    · cases hf
theorem any_py (d : D) (h : shd DEP d = true) : ∀ (xs : List D) (n : Nat), xs.all (shd n) = true → (toPys xs).any (fun z => PyData.eqv z (toPy d)) = anyEq d xs
  | [], _, _ => rfl
  | x :: xs, n, hx => by
    rw [List.all_cons, Bool.and_eq_true] at hx
    unfold toPys anyEq
    rw [List.any_cons, List.any_cons, any_py d h xs n hx.2, eqv_py x d n DEP hx.1 h]
    rfl
theorem in_tupD (hu : X.A.units + 65 < cLine) : OpR X (compareOp .In) (fun x y H Q => ∃ d ds, Dp X.K H x d ∧ Dp X.K H y (.tuple ds) ∧ SeqAt.shaped d = true ∧ SeqAt.shaped (.tuple ds) = true ∧ Q (.bl (ds.any fun z => PyData.eqv z d)) H) := by
  intro pins s σ H x y v u Q I rx ry h
  obtain ⟨d, ds, hd, he, sd, se, q⟩ := h
  obtain ⟨as, r1⟩ := Dp.reads I d x v hd rx
  obtain ⟨bs, r2⟩ := Dp.reads I (.tuple ds) y u he ry
  exact SeqAt.in_tuple_reads r2 r1 (SeqAt.canLay_of_shaped se) (SeqAt.canLay_of_shaped sd) (room_in_shaped sd hu) ⟨.bl _, H, I, rfl, q⟩
theorem nin_tupD (hu : X.A.units + 65 < cLine) : OpR X (compareOp .NotIn) (fun x y H Q => ∃ d ds, Dp X.K H x d ∧ Dp X.K H y (.tuple ds) ∧ SeqAt.shaped d = true ∧ SeqAt.shaped (.tuple ds) = true ∧ Q (.bl (!ds.any fun z => PyData.eqv z d)) H) := by
  intro pins s σ H x y v u Q I rx ry h
  obtain ⟨d, ds, hd, he, sd, se, q⟩ := h
  obtain ⟨as, r1⟩ := Dp.reads I d x v hd rx
  obtain ⟨bs, r2⟩ := Dp.reads I (.tuple ds) y u he ry
  exact SeqAt.notIn_tuple_reads r2 r1 (SeqAt.canLay_of_shaped se) (SeqAt.canLay_of_shaped sd) (room_in_shaped sd hu) ⟨.bl _, H, I, rfl, q⟩
theorem all_59 {xs : List D} {n : Nat} (h : xs.all (shd n) = true) (hn : n ≤ 63) : SeqAt.shaped (.tuple (toPys xs)) = true ∧ SeqAt.shaped (.list (toPys xs)) = true := by
  obtain ⟨h1, h2⟩ := lays_py xs n h
  constructor <;>
  · unfold SeqAt.shaped
    show (PyData.canLayAll0 (toPys xs) && decide (PyData.depthAll (toPys xs) + 1 ≤ 64)) = true
    rw [h1, decide_eq_true (by omega)]
    rfl
theorem op_inDD (hu : X.A.units + 65 < cLine) : OpR X (compareOp .In) (rTst X.K inD) := OpR.by fun x y H Q ⟨A, S, d, e, z, s, rx, ry, hf, q⟩ => by
  unfold inD at hf
  split at hf
  · rename_i x' y'
    split at hf
    · rename_i c hl
      cases hf
      have e : x' = ⟨#[c]⟩ := by
        obtain ⟨⟨l⟩⟩ := x'
        have hl : l = [c] := hl
        rw [hl]
      subst e
      rw [rx.str, ry.str]
      exact ⟨_, op_in_sign, _, _, rfl, rfl, q⟩
    · cases hf
  · split at hf
    · rename_i xs e1
      split at hf
      · rename_i h
        cases hf
        rw [Bool.and_eq_true] at h
        obtain ⟨a, vs, rfl, h1, h2⟩ := view_lst s ry e1
        refine ⟨_, op_inD hu, _, toPys xs, dp_of _ _ _ h.1 rx, .lst (SqL.of h1) (dps_of xs _ vs h.2 h2), shaped_py h.1, (all_59 h.2 (by decide)).2, ?_⟩
        rw [any_py _ h.1 xs _ h.2]
        exact q
      · cases hf
    · rename_i xs e1
      split at hf
      · rename_i h
        cases hf
        rw [Bool.and_eq_true] at h
        have e2 := view_tup e1
        subst e2
        obtain ⟨a, vs, rfl, h1, h2⟩ := ry.tup
        refine ⟨_, in_tupD hu, _, toPys xs, dp_of _ _ _ h.1 rx, .tup h1 (dps_of xs _ vs h.2 h2), shaped_py h.1, (all_59 h.2 (by decide)).1, ?_⟩
        rw [any_py _ h.1 xs _ h.2]
        exact q
      · cases hf
    · cases hf
theorem op_ninDD (hu : X.A.units + 65 < cLine) : OpR X (compareOp .NotIn) (rTst X.K fun S a b => (inD S a b).map (!·)) := OpR.by fun x y H Q ⟨A, S, d, e, z, s, rx, ry, hf0, q⟩ => by
  obtain ⟨b, hf, rfl⟩ := Option.map_eq_some_iff.mp (show (inD S d e).map (!·) = some z from hf0)
  unfold inD at hf
  split at hf
  · rename_i x' y'
    split at hf
    · rename_i c hl
      cases hf
      have e : x' = ⟨#[c]⟩ := by
        obtain ⟨⟨l⟩⟩ := x'
        have hl : l = [c] := hl
        rw [hl]
      subst e
      rw [rx.str, ry.str]
      exact ⟨_, op_notIn_sign, _, _, rfl, rfl, q⟩
    · cases hf
  · split at hf
    · rename_i xs e1
      split at hf
      · rename_i h
        cases hf
        rw [Bool.and_eq_true] at h
        obtain ⟨a, vs, rfl, h1, h2⟩ := view_lst s ry e1
        refine ⟨_, op_notInD hu, _, toPys xs, dp_of _ _ _ h.1 rx, .lst (SqL.of h1) (dps_of xs _ vs h.2 h2), shaped_py h.1, (all_59 h.2 (by decide)).2, ?_⟩
        rw [any_py _ h.1 xs _ h.2]
        exact q
      · cases hf
    · rename_i xs e1
      split at hf
      · rename_i h
        cases hf
        rw [Bool.and_eq_true] at h
        have e2 := view_tup e1
        subst e2
        obtain ⟨a, vs, rfl, h1, h2⟩ := ry.tup
        refine ⟨_, nin_tupD hu, _, toPys xs, dp_of _ _ _ h.1 rx, .tup h1 (dps_of xs _ vs h.2 h2), shaped_py h.1, (all_59 h.2 (by decide)).1, ?_⟩
        rw [any_py _ h.1 xs _ h.2]
        exact q
      · cases hf
    · cases hf
end
end Rs
end

section
set_option Elab.async false
set_option linter.all false
set_option maxRecDepth 100000
set_option maxHeartbeats 1000000
set_option autoImplicit false
/-! RsOps2: the order, is, places, slices, kinds, built-in functions, methods, by values. Own work. -/
namespace Rs
open PySem PySem.Spec PyProof.Rows L2
section
variable {X : Cx}
theorem ints_of : ∀ {xs : List D} {ns : List Int}, intsD xs = some ns → xs = ns.map D.int
  | [], _, h => by cases h; rfl
  | .int i :: r, ns, h => by
    unfold intsD at h
    obtain ⟨ms, h1, rfl⟩ := Option.map_eq_some_iff.mp h
    rw [ints_of h1]
    rfl
  | .non :: _, _, h => by cases h
  | .bl _ :: _, _, h => by cases h
  | .str _ :: _, _, h => by cases h
  | .tup _ :: _, _, h => by cases h
  | .lst _ :: _, _, h => by cases h
  | .dct _ :: _, _, h => by cases h
  | .ref _ :: _, _, h => by cases h
  | .exc _ :: _, _, h => by cases h
  | .scr _ :: _, _, h => by cases h
theorem rps_of_ints {K : PySem.W.Frag} {H : Hp} {A : Ads} : ∀ {ns : List Int} {vs : List V}, Rps K H A (ns.map D.int) vs → vs = ns.map V.int
  | [], _, h => by unfold Rps at h; exact h
  | n :: ns, _, h => by
    obtain ⟨v, r, rfl, h1, h2⟩ := Rps.inv h
    rw [h1.int, rps_of_ints h2]
    rfl
theorem op_ltO (hu : X.A.units + 65 < cLine) : OpR X (compareOp .Lt) (rTst X.K fun _ => ltO) := OpR.by fun x y H Q ⟨A, S, d, e, z, s, rx, ry, hf, q⟩ => by
  have hf : ltO d e = some z := hf
  unfold ltO at hf
  split at hf
  · cases hf
    rw [rx.int, ry.int]
    exact ⟨_, op_lt, _, _, rfl, rfl, q⟩
  · split at hf
    · rename_i ns ms h1 h2
      cases hf
      obtain ⟨a, vs, rfl, h3, h4⟩ := rx.tup
      obtain ⟨b, us, rfl, h5, h6⟩ := ry.tup
      rw [ints_of h1] at h4
      rw [ints_of h2] at h6
      rw [rps_of_ints h4] at h3
      rw [rps_of_ints h6] at h5
      exact ⟨_, op_ltT (by omega), a, b, ns, ms, rfl, rfl, h3, h5, q⟩
    · cases hf
  · cases hf
theorem op_leO : OpR X (compareOp .LtE) (rTst X.K fun _ => leO) := OpR.by fun x y H Q ⟨A, S, d, e, z, s, rx, ry, hf, q⟩ => by
  have hf : leO d e = some z := hf
  unfold leO at hf
  split at hf
  · cases hf
    rw [rx.int, ry.int]
    exact ⟨_, op_le, _, _, rfl, rfl, q⟩
  · cases hf
theorem op_gtO : OpR X (compareOp .Gt) (rTst X.K fun _ => gtO) := OpR.by fun x y H Q ⟨A, S, d, e, z, s, rx, ry, hf, q⟩ => by
  have hf : gtO d e = some z := hf
  unfold gtO at hf
  split at hf
  · cases hf
    rw [rx.int, ry.int]
    exact ⟨_, op_gt, _, _, rfl, rfl, q⟩
  · cases hf
theorem op_geO : OpR X (compareOp .GtE) (rTst X.K fun _ => geO) := OpR.by fun x y H Q ⟨A, S, d, e, z, s, rx, ry, hf, q⟩ => by
  have hf : geO d e = some z := hf
  unfold geO at hf
  split at hf
  · cases hf
    rw [rx.int, ry.int]
    exact ⟨_, op_ge, _, _, rfl, rfl, q⟩
  · cases hf
theorem not_non {K : PySem.W.Frag} {H : Hp} {A : Ads} {d : D} {v : V} (h : Rp K H A d v) (n : d ≠ .non) : decide (v = V.non) = false := by
  refine decide_eq_false fun e => ?_
  subst e
  cases d with
  | non => exact n rfl
  | bl b => exact nomatch h.bl
  | int i => exact nomatch h.int
  | str x => exact nomatch h.str
  | tup xs => obtain ⟨_, _, e, _⟩ := h.tup; cases e
  | lst xs => obtain ⟨_, _, e, _⟩ := h.lst; cases e
  | dct xs => unfold Rp at h; obtain ⟨_, e, _⟩ := h; cases e
  | ref k => obtain ⟨_, _, _, e⟩ := h.ref; cases e
  | exc c => unfold Rp at h; exact h
  | scr ns => obtain ⟨_, e, _⟩ := h.scr; cases e
theorem op_isO : OpR X (compareOp .Is) (rTst X.K fun _ => isD) := OpR.by fun x y H Q ⟨A, S, d, e, z, s, rx, ry, hf, q⟩ => by
  have hf : isD d e = some z := hf
  unfold isD at hf
  split at hf
  · cases hf
    rw [rx.non, ry.non]
    exact ⟨_, op_isN, rfl, q⟩
  · cases hf
  · rename_i h1 h2
    cases hf
    rw [ry.non]
    refine ⟨_, op_isN, rfl, ?_⟩
    rw [not_non rx fun e => by subst e; exact h1 rfl]
    exact q
  · cases hf
    rw [rx.bl, ry.bl]
    exact ⟨_, op_is_bl, _, _, rfl, rfl, q⟩
  · cases hf
theorem op_isntO : OpR X (compareOp .IsNot) (rTst X.K fun _ a b => (isD a b).map (!·)) := OpR.by fun x y H Q ⟨A, S, d, e, z, s, rx, ry, hf0, q⟩ => by
  obtain ⟨b, hf, rfl⟩ := Option.map_eq_some_iff.mp (show (isD d e).map (!·) = some z from hf0)
  unfold isD at hf
  split at hf
  · cases hf
    rw [rx.non, ry.non]
    exact ⟨_, op_notN, rfl, q⟩
  · cases hf
  · rename_i h1 h2
    cases hf
    rw [ry.non]
    refine ⟨_, op_notN, rfl, ?_⟩
    rw [not_non rx fun e => by subst e; exact h1 rfl]
    exact q
  · cases hf
    rw [rx.bl, ry.bl]
    exact ⟨_, op_isnot_bl, _, _, rfl, rfl, q⟩
  · cases hf
def cmpOf : Cop → CmpOp
  | .eq => .Eq
  | .ne => .NotEq
  | .lt => .Lt
  | .le => .LtE
  | .gt => .Gt
  | .ge => .GtE
  | .isin => .In
  | .nin => .NotIn
  | .is => .Is
  | .isnt => .IsNot
theorem op_cops (hu : X.A.units + 65 < cLine) : ∀ o : Cop, OpR X (compareOp (cmpOf o)) (rTst X.K fun S => cops S o)
  | .eq => op_eqDD hu
  | .ne => op_neDD hu
  | .lt => op_ltO hu
  | .le => op_leO
  | .gt => op_gtO
  | .ge => op_geO
  | .isin => op_inDD hu
  | .nin => op_ninDD hu
  | .is => op_isO
  | .isnt => op_isntO

/-! ### places -/
theorem atI_rps {K : PySem.W.Frag} {H : Hp} {A : Ads} {ds : List D} {vs : List V} (r : Rps K H A ds vs) {i : Int} {d : D} (h : atI ds i = some d) : ∃ v, atI vs i = some v ∧ Rp K H A d v := by
  unfold atI at h ⊢
  rw [← r.length]
  cases e : L2.ixN ds.length i with
  | none => rw [e] at h; cases h
  | some j =>
    rw [e] at h
    exact r.get h
theorem ix_D : IxR X (rOp X.K ixD) := by
  intro va sc pins s σ H x y v u Q I rx ry h hs
  obtain ⟨A, S, d, e, z, sr, hx, hy, hf, ho⟩ := h
  unfold ixD at hf
  split at hf
  · rename_i i
    rw [hy.int] at ry
    split at hf
    · rename_i xs e1
      obtain ⟨a, vs, rfl, h1, h2⟩ := seq_of sr hx e1
      obtain ⟨w, h3, h4⟩ := atI_rps h2 hf
      rcases h1 with h1 | h1
      · exact ix_list va sc pins s σ H _ _ v u Q I rx ry ⟨a, vs, i, w, rfl, rfl, h1, h3, ho.here sr h4⟩ hs
      · exact ix_tup va sc pins s σ H _ _ v u Q I rx ry ⟨a, vs, i, w, rfl, rfl, h1, h3, ho.here sr h4⟩ hs
    · split at hf
      · split at hf
        · rename_i z' _ hl
          obtain ⟨c, h1, rfl⟩ := Option.map_eq_some_iff.mp hf
          rw [hx.str] at rx
          exact ix_str va sc pins s σ H _ _ v u Q I rx ry ⟨z', i, c, rfl, rfl, lim_size hl, h1, ho.here sr rp_str⟩ hs
        · cases hf
      · cases hf
  · cases hf
/-! ### slices -/
def rSlD (K : PySem.W.Frag) : V → Option Int → Option Int → Hp → VK → Prop := fun x lo hi H Q => ∃ A S d z, SR K H A S ∧ Rp K H A d x ∧ slD S d lo hi = some z ∧ Out K A H S z Q
theorem cut_whole {α : Type} (xs : List α) (lo hi : Option Int) (h : HT.sIx xs.length 0 lo = 0 ∧ HT.sIx xs.length xs.length hi = xs.length) : Rs.cut xs lo hi = xs := by
  unfold Rs.cut
  rw [h.1, h.2]
  simp
theorem sl_D : SlR X (rSlD X.K) := by
  intro pins s σ H x v vl vu lo hi sl Q I rx hs pl pu h
  obtain ⟨A, S, d, z, sr, hx, hf, ho⟩ := h
  unfold slD at hf
  split at hf
  · rename_i xs e1
    cases hf
    have e2 := view_tup e1
    subst e2
    obtain ⟨a, vs, rfl, h1, h2⟩ := hx.tup
    refine sl_tupA pins s σ H _ v vl vu lo hi sl Q I rx hs pl pu ⟨a, vs, rfl, h1, fun e => ?_, fun _ p hp => ho.tupN sr (h2.cut lo hi) hp⟩
    rw [← h2.length] at e
    rw [cut_whole xs lo hi e] at ho
    exact ho.here sr (rp_tup h1 h2)
  · rename_i xs e1
    cases hf
    obtain ⟨a, vs, rfl, h1, h2⟩ := view_lst sr hx e1
    exact sl_list pins s σ H _ v vl vu lo hi sl Q I rx hs pl pu ⟨a, vs, rfl, SqL.of h1, fun p hp => ho.lstN sr (h2.cut lo hi) hp⟩
  · rename_i ns e1
    cases hf
    have e2 := view_scr e1
    subst e2
    obtain ⟨a, rfl, h1⟩ := hx.scr
    exact sl_list pins s σ H _ v vl vu lo hi sl Q I rx hs pl pu ⟨a, _, rfl, h1, fun p hp => ho.lstN sr ((rps_ints ns).cut lo hi) hp⟩
  · split at hf
    · rename_i x' e1 hl
      cases hf
      have e2 : d = .str x' := by
        unfold view at e1
        split at e1
        · split at e1 <;> cases e1
        · exact e1
      subst e2
      rw [hx.str] at rx
      exact sl_str pins s σ H _ v vl vu lo hi sl Q I rx hs pl pu ⟨x', rfl, lim_size hl, ho.here sr rp_str⟩
    · cases hf
  · cases hf

/-! ### built-in functions -/
def rBl (K : PySem.W.Frag) (f : Store → List D → Option D) : List V → Hp → VK → Prop := fun xs H Q => ∃ A S ds z, SR K H A S ∧ Rps K H A ds xs ∧ f S ds = some z ∧ Out K A H S z Q
theorem CallR.by {f : Value} {r : List V → Hp → VK → Prop} (h : ∀ xs H Q, r xs H Q → ∃ r', CallR X f r' ∧ r' xs H Q) : CallR X f r :=
  fun pins s σ H xs us Q I rx q => let ⟨_, h1, h2⟩ := h xs H Q q; h1 pins s σ H xs us Q I rx h2
theorem rps1 {K : PySem.W.Frag} {H : Hp} {A : Ads} {d : D} {vs : List V} (h : Rps K H A [d] vs) : ∃ v, vs = [v] ∧ Rp K H A d v := by
  obtain ⟨v, r, rfl, h1, h2⟩ := h.inv
  unfold Rps at h2
  subst h2
  exact ⟨v, rfl, h1⟩
theorem rps2 {K : PySem.W.Frag} {H : Hp} {A : Ads} {d e : D} {vs : List V} (h : Rps K H A [d, e] vs) : ∃ v u, vs = [v, u] ∧ Rp K H A d v ∧ Rp K H A e u := by
  obtain ⟨v, r, rfl, h1, h2⟩ := h.inv
  obtain ⟨u, rfl, h3⟩ := rps1 h2
  exact ⟨v, u, rfl, h1, h3⟩
theorem call_lenD : CallR X (.builtin "len") (rBl X.K lenD) := CallR.by fun xs H Q ⟨A, S, ds, z, s, rr, hf, ho⟩ => by
  unfold lenD at hf
  split at hf
  · obtain ⟨v, rfl, r⟩ := rps1 rr
    split at hf
    · rename_i ys e1
      cases hf
      obtain ⟨a, vs, rfl, h1, h2⟩ := seq_of s r e1
      rw [h2.length] at ho
      exact ⟨_, call_len_seq, a, vs, rfl, h1, ho.here s rp_int⟩
    · split at hf
      · split at hf
        · rename_i hl
          cases hf
          rw [r.str]
          exact ⟨_, call_len_str, _, rfl, lim_size hl, ho.here s rp_int⟩
        · cases hf
      · cases hf
  · cases hf
theorem call_absD : CallR X (.builtin "abs") (rBl X.K fun _ => absD) := CallR.by fun xs H Q ⟨A, S, ds, z, s, rr, hf, ho⟩ => by
  have hf : absD ds = some z := hf
  unfold absD at hf
  split at hf
  · cases hf
    obtain ⟨v, rfl, r⟩ := rps1 rr
    rw [r.int]
    exact ⟨_, call_abs, _, rfl, ho.here s rp_int⟩
  · cases hf
theorem maxI_ok : ∀ {ns : List Int} {m : Int}, maxI ns = some m → m ∈ ns ∧ ∀ y ∈ ns, y ≤ m
  | [], _, h => by cases h
  | [i], m, h => by cases h; exact ⟨List.mem_singleton.mpr rfl, fun y hy => by rw [List.mem_singleton.mp hy]; exact Int.le_refl _⟩
  | i :: j :: r, m, h => by
    unfold maxI at h
    obtain ⟨k, h1, rfl⟩ := Option.map_eq_some_iff.mp h
    obtain ⟨h2, h3⟩ := maxI_ok h1
    by_cases hk : k > i
    · rw [if_pos hk]
      refine ⟨List.mem_cons_of_mem _ h2, fun y hy => ?_⟩
      rcases List.mem_cons.mp hy with rfl | hy
      · omega
      · exact h3 y hy
    · rw [if_neg hk]
      refine ⟨List.mem_cons_self, fun y hy => ?_⟩
      rcases List.mem_cons.mp hy with rfl | hy
      · omega
      · have := h3 y hy; omega
theorem minI_ok : ∀ {ns : List Int} {m : Int}, minI ns = some m → m ∈ ns ∧ ∀ y ∈ ns, m ≤ y
  | [], _, h => by cases h
  | [i], m, h => by cases h; exact ⟨List.mem_singleton.mpr rfl, fun y hy => by rw [List.mem_singleton.mp hy]; exact Int.le_refl _⟩
  | i :: j :: r, m, h => by
    unfold minI at h
    obtain ⟨k, h1, rfl⟩ := Option.map_eq_some_iff.mp h
    obtain ⟨h2, h3⟩ := minI_ok h1
    by_cases hk : k < i
    · rw [if_pos hk]
      refine ⟨List.mem_cons_of_mem _ h2, fun y hy => ?_⟩
      rcases List.mem_cons.mp hy with rfl | hy
      · omega
      · exact h3 y hy
    · rw [if_neg hk]
      refine ⟨List.mem_cons_self, fun y hy => ?_⟩
      rcases List.mem_cons.mp hy with rfl | hy
      · omega
      · have := h3 y hy; omega
theorem call_maxD (hc : X.calm = true) : CallR X (.builtin "max") (rBl X.K maxD) := CallR.by fun xs H Q ⟨A, S, ds, z, s, rr, hf, ho⟩ => by
  unfold maxD at hf
  split at hf
  · cases hf
    obtain ⟨v, u, rfl, r1, r2⟩ := rps2 rr
    rw [r1.int, r2.int]
    exact ⟨_, call_max2 hc, _, _, rfl, ho.here s rp_int⟩
  · split at hf
    · rename_i ys e1
      obtain ⟨ns, h1, h2⟩ := Option.bind_eq_some_iff.mp hf
      obtain ⟨m, h3, rfl⟩ := Option.map_eq_some_iff.mp h2
      obtain ⟨v, rfl, r⟩ := rps1 rr
      obtain ⟨a, vs, rfl, h4, h5⟩ := view_lst s r e1
      rw [ints_of h1] at h5
      have e2 := rps_of_ints h5
      subst e2
      obtain ⟨h6, h7⟩ := maxI_ok h3
      refine ⟨_, cr_max hc, a, ns, rfl, SqL.of h4, List.length_pos_of_mem h6, fun m' hm hle => ?_⟩
      have : m' = m := Int.le_antisymm (h7 m' hm) (hle m h6)
      rw [this]
      exact ho.here s rp_int
    · cases hf
  · cases hf
theorem call_minD (hc : X.calm = true) : CallR X (.builtin "min") (rBl X.K minD) := CallR.by fun xs H Q ⟨A, S, ds, z, s, rr, hf, ho⟩ => by
  unfold minD at hf
  split at hf
  · cases hf
    obtain ⟨v, u, rfl, r1, r2⟩ := rps2 rr
    rw [r1.int, r2.int]
    exact ⟨_, call_min2 hc, _, _, rfl, ho.here s rp_int⟩
  · split at hf
    · rename_i ys e1
      obtain ⟨ns, h1, h2⟩ := Option.bind_eq_some_iff.mp hf
      obtain ⟨m, h3, rfl⟩ := Option.map_eq_some_iff.mp h2
      obtain ⟨v, rfl, r⟩ := rps1 rr
      obtain ⟨a, vs, rfl, h4, h5⟩ := view_lst s r e1
      rw [ints_of h1] at h5
      have e2 := rps_of_ints h5
      subst e2
      obtain ⟨h6, h7⟩ := minI_ok h3
      refine ⟨_, cr_min hc, a, ns, rfl, SqL.of h4, List.length_pos_of_mem h6, fun m' hm hle => ?_⟩
      have : m' = m := Int.le_antisymm (hle m h6) (h7 m' hm)
      rw [this]
      exact ho.here s rp_int
    · cases hf
  · cases hf
theorem call_sumD (hc : X.calm = true) : CallR X (.builtin "sum") (rBl X.K sumD) := CallR.by fun xs H Q ⟨A, S, ds, z, s, rr, hf, ho⟩ => by
  unfold sumD at hf
  split at hf
  · split at hf
    · rename_i ys e1
      obtain ⟨ns, h1, rfl⟩ := Option.map_eq_some_iff.mp hf
      obtain ⟨v, rfl, r⟩ := rps1 rr
      obtain ⟨a, vs, rfl, h4, h5⟩ := view_lst s r e1
      rw [ints_of h1] at h5
      have e2 := rps_of_ints h5
      subst e2
      exact ⟨_, cr_sum hc, a, ns, rfl, SqL.of h4, ho.here s rp_int⟩
    · cases hf
  · cases hf
theorem bls_of : ∀ {xs : List D} {bs : List Bool}, bltsD xs = some bs → xs = bs.map D.bl
  | [], _, h => by cases h; rfl
  | .bl i :: r, ns, h => by
    unfold bltsD at h
    obtain ⟨ms, h1, rfl⟩ := Option.map_eq_some_iff.mp h
    rw [bls_of h1]
    rfl
  | .non :: _, _, h => by cases h
  | .int _ :: _, _, h => by cases h
  | .str _ :: _, _, h => by cases h
  | .tup _ :: _, _, h => by cases h
  | .lst _ :: _, _, h => by cases h
  | .dct _ :: _, _, h => by cases h
  | .ref _ :: _, _, h => by cases h
  | .exc _ :: _, _, h => by cases h
  | .scr _ :: _, _, h => by cases h
theorem rps_of_bls {K : PySem.W.Frag} {H : Hp} {A : Ads} : ∀ {ns : List Bool} {vs : List V}, Rps K H A (ns.map D.bl) vs → vs = ns.map V.bl
  | [], _, h => by unfold Rps at h; exact h
  | n :: ns, _, h => by
    obtain ⟨v, r, rfl, h1, h2⟩ := Rps.inv h
    rw [h1.bl, rps_of_bls h2]
    rfl
theorem call_allD (hc : X.calm = true) : CallR X (.builtin "all") (rBl X.K allD) := CallR.by fun xs H Q ⟨A, S, ds, z, s, rr, hf, ho⟩ => by
  unfold allD at hf
  split at hf
  · split at hf
    · rename_i ys e1
      obtain ⟨ns, h1, rfl⟩ := Option.map_eq_some_iff.mp hf
      obtain ⟨v, rfl, r⟩ := rps1 rr
      obtain ⟨a, vs, rfl, h4, h5⟩ := view_lst s r e1
      rw [bls_of h1] at h5
      have e2 := rps_of_bls h5
      subst e2
      exact ⟨_, cr_all hc, a, ns, rfl, SqL.of h4, ho.here s rp_bl⟩
    · cases hf
  · cases hf
theorem call_anyD (hc : X.calm = true) : CallR X (.builtin "any") (rBl X.K anyD) := CallR.by fun xs H Q ⟨A, S, ds, z, s, rr, hf, ho⟩ => by
  unfold anyD at hf
  split at hf
  · split at hf
    · rename_i ys e1
      obtain ⟨ns, h1, rfl⟩ := Option.map_eq_some_iff.mp hf
      obtain ⟨v, rfl, r⟩ := rps1 rr
      obtain ⟨a, vs, rfl, h4, h5⟩ := view_lst s r e1
      rw [bls_of h1] at h5
      have e2 := rps_of_bls h5
      subst e2
      exact ⟨_, cr_any hc, a, ns, rfl, SqL.of h4, ho.here s rp_bl⟩
    · cases hf
  · cases hf
theorem insI_perm (i : Int) : ∀ l : List Int, (insI i l).Perm (i :: l)
  | [] => List.Perm.refl _
  | j :: r => by
    unfold insI
    split
    · exact List.Perm.refl _
    · exact ((insI_perm i r).cons j).trans (List.Perm.swap i j r)
theorem sortI_perm : ∀ l : List Int, (sortI l).Perm l
  | [] => List.Perm.refl _
  | i :: r => (insI_perm i (sortI r)).trans ((sortI_perm r).cons i)
theorem insI_sorted (i : Int) : ∀ l : List Int, l.Pairwise (· ≤ ·) → (insI i l).Pairwise (· ≤ ·)
  | [], _ => List.pairwise_singleton _ _
  | j :: r, h => by
    unfold insI
    split
    · rename_i hij
      refine List.pairwise_cons.mpr ⟨fun a ha => ?_, h⟩
      rcases List.mem_cons.mp ha with rfl | ha
      · exact hij
      · exact Int.le_trans hij ((List.pairwise_cons.mp h).1 a ha)
    · rename_i hij
      refine List.pairwise_cons.mpr ⟨fun a ha => ?_, insI_sorted i r (List.pairwise_cons.mp h).2⟩
      rcases List.mem_cons.mp ((insI_perm i r).mem_iff.mp ha) with rfl | ha
      · omega
      · exact (List.pairwise_cons.mp h).1 a ha
theorem sortI_sorted : ∀ l : List Int, (sortI l).Pairwise (· ≤ ·)
  | [] => List.Pairwise.nil
  | i :: r => insI_sorted i _ (sortI_sorted r)
theorem sorted_uni : ∀ {l m : List Int}, l.Perm m → l.Pairwise (· ≤ ·) → m.Pairwise (· ≤ ·) → l = m
  | [], m, p, _, _ => (List.Perm.nil_eq p)
  | a :: l, [], p, _, _ => nomatch (List.Perm.length_eq p)
  | a :: l, b :: m, p, h1, h2 => by
    have hab : a = b := by
      have m1 : a ∈ b :: m := p.mem_iff.mp List.mem_cons_self
      have m2 : b ∈ a :: l := p.mem_iff.mpr List.mem_cons_self
      rcases List.mem_cons.mp m1 with e | m1
      · exact e
      · rcases List.mem_cons.mp m2 with e | m2
        · exact e.symm
        · exact Int.le_antisymm ((List.pairwise_cons.mp h1).1 b m2) ((List.pairwise_cons.mp h2).1 a m1)
    subst hab
    rw [sorted_uni (List.perm_cons a |>.mp p) (List.pairwise_cons.mp h1).2 (List.pairwise_cons.mp h2).2]
theorem call_sortedD : CallR X (.builtin "sorted") (rBl X.K sortedD) := CallR.by fun xs H Q ⟨A, S, ds, z, s, rr, hf, ho⟩ => by
  unfold sortedD at hf
  split at hf
  · split at hf
    · rename_i ys e1
      split at hf
      · rename_i hl
        obtain ⟨ns, h1, rfl⟩ := Option.map_eq_some_iff.mp hf
        obtain ⟨v, rfl, r⟩ := rps1 rr
        obtain ⟨a, vs, rfl, h4, h5⟩ := view_lst s r e1
        have e3 := ints_of h1
        subst e3
        have e2 := rps_of_ints h5
        subst e2
        refine ⟨_, cr_sorted, a, ns, rfl, SqL.of h4, by simpa using hl, fun ns' p hp hs hn => ?_⟩
        have e : ns' = sortI ns := sorted_uni (hp.trans (sortI_perm ns).symm) hs (sortI_sorted ns)
        subst e
        exact ho.lstN s (rps_ints _) hn
      · cases hf
    · cases hf
  · cases hf
theorem call_tupleD : CallR X (.type "tuple") (rBl X.K tupleD) := CallR.by fun xs H Q ⟨A, S, ds, z, s, rr, hf, ho⟩ => by
  unfold tupleD at hf
  split at hf
  · obtain ⟨v, rfl, r⟩ := rps1 rr
    split at hf
    · rename_i ys e1
      cases hf
      obtain ⟨a, vs, rfl, h4, h5⟩ := view_lst s r e1
      exact ⟨_, call_tuple_of, a, vs, rfl, .inl ⟨SqL.of h4, fun p hp => ho.tupN s h5 hp⟩⟩
    · rename_i ys e1
      cases hf
      have e2 := view_tup e1
      subst e2
      obtain ⟨a, vs, rfl, h4, h5⟩ := r.tup
      exact ⟨_, call_tuple_of, a, vs, rfl, .inr ⟨h4, ho.here s (rp_tup h4 h5)⟩⟩
    · cases hf
  · cases hf
theorem call_listD : CallR X (.type "list") (rBl X.K listD) := CallR.by fun xs H Q ⟨A, S, ds, z, s, rr, hf, ho⟩ => by
  unfold listD at hf
  split at hf
  · obtain ⟨v, rfl, r⟩ := rps1 rr
    split at hf
    · rename_i ys e1
      cases hf
      obtain ⟨a, vs, rfl, h4, h5⟩ := view_lst s r e1
      exact ⟨_, call_list_of, a, vs, rfl, .inl (SqL.of h4), fun p hp => ho.lstN s h5 hp⟩
    · rename_i ys e1
      cases hf
      have e2 := view_tup e1
      subst e2
      obtain ⟨a, vs, rfl, h4, h5⟩ := r.tup
      exact ⟨_, call_list_of, a, vs, rfl, .inr h4, fun p hp => ho.lstN s h5 hp⟩
    · cases hf
  · cases hf
theorem call_intD : CallR X (.type "int") (rBl X.K fun _ => intD) := CallR.by fun xs H Q ⟨A, S, ds, z, s, rr, hf, ho⟩ => by
  have hf : intD ds = some z := hf
  unfold intD at hf
  split at hf
  · cases hf
    obtain ⟨v, rfl, r⟩ := rps1 rr
    rw [r.int]
    exact ⟨_, call_int1, .inl ⟨_, rfl, ho.here s rp_int⟩⟩
  · cases hf
    obtain ⟨v, rfl, r⟩ := rps1 rr
    rw [r.bl]
    exact ⟨_, call_int1, .inr ⟨_, rfl, ho.here s rp_int⟩⟩
  · cases hf
theorem call_strD : CallR X (.type "str") (rBl X.K fun _ => strOfD) := CallR.by fun xs H Q ⟨A, S, ds, z, s, rr, hf, ho⟩ => by
  have hf : strOfD ds = some z := hf
  unfold strOfD at hf
  split at hf
  · split at hf
    · rename_i hl
      cases hf
      obtain ⟨v, rfl, r⟩ := rps1 rr
      rw [r.int]
      exact ⟨_, call_str_int, _, rfl, hl, ho.here s rp_str⟩
    · cases hf
  · cases hf
end
end Rs
end

section
set_option Elab.async false
set_option linter.all false
set_option maxRecDepth 100000
set_option maxHeartbeats 1000000
set_option autoImplicit false
/-! RsOps3: kinds, texts of data, methods, truth, by values. Own work. -/
namespace Rs
open PySem PySem.Spec PyProof.Rows L2
section
variable {X : Cx} {pins : List (Addr × Obj)} {σ : L2.St} {s : Shared} {H : Hp} {A : Ads} {S : Store}

/-! ### isinstance -/
def tyn : D → String
  | .non => "NoneType"
  | .bl _ => "bool"
  | .int _ => "int"
  | .str _ => "str"
  | .tup _ => "tuple"
  | .lst _ => "list"
  | .scr _ => "list"
  | .dct _ => "dict"
  | _ => ""
def tyName : Ty → String
  | .int => "int"
  | .bool => "bool"
  | .str => "str"
  | .tup => "tuple"
  | .lst => "list"
  | .own _ => ""
theorem view_self {d : D} (h : ∀ k, d ≠ .ref k) : view S d = d := by
  cases d <;> first | rfl | exact absurd rfl (h _)
theorem view_eq {d e : D} (h : view S d = e) (n : ∀ xs, e ≠ .lst xs) (m : ∀ k, e ≠ .ref k) : d = e := by
  cases d with
  | ref k =>
    have h : (match S[k]? with
      | some (.lst xs) => D.lst xs
      | _ => D.ref k) = e := h
    split at h
    · exact absurd h.symm (n _)
    · exact absurd h.symm (m _)
  | _ => exact h
theorem kit_rp (I : Inv X pins σ H s) (sr : SR X.K H A S) {d : D} {x : V} {u : Value} (r : Rp X.K H A d x) (ru : RelV x u) (n1 : ∀ k, view S d ≠ .ref k) (n2 : ∀ c, view S d ≠ .exc c) :
    ∃ P : Heap → Prop, PySem.W.KitX X.K u (.type (tyn (view S d))) P ∧ P s.heap ∧ u ≠ .builtin "__main__.__loader__#opaque" := by
  have lst : ∀ {ds : List D}, view S d = .lst ds → ∃ P : Heap → Prop, PySem.W.KitX X.K u (.type "list") P ∧ P s.heap ∧ u ≠ .builtin "__main__.__loader__#opaque" := fun e => by
    obtain ⟨a, vs, rfl, h1, h2⟩ := view_lst sr r e
    cases ru
    obtain ⟨_, _, n, _, h3⟩ := I.hok a _ h1
    exact ⟨_, PySem.W.kitx_list, ⟨_, h3, rfl⟩, fun z => nomatch z⟩
  cases e : view S d with
  | lst ds => exact lst e
  | ref k => exact absurd e (n1 k)
  | exc c => exact absurd e (n2 c)
  | non =>
    have h : d = .non := view_eq e (fun _ q => nomatch q) (fun _ q => nomatch q)
    subst h
    have := r.non
    subst this
    cases (show u = Value.none from ru)
    exact ⟨_, PySem.W.kitx_none, True.intro, fun z => nomatch z⟩
  | bl b =>
    have h : d = .bl b := view_eq e (fun _ q => nomatch q) (fun _ q => nomatch q)
    subst h
    have := r.bl
    subst this
    cases (show u = Value.bool b from ru)
    exact ⟨_, PySem.W.kitx_bool, True.intro, fun z => nomatch z⟩
  | int i =>
    have h : d = .int i := view_eq e (fun _ q => nomatch q) (fun _ q => nomatch q)
    subst h
    have := r.int
    subst this
    obtain ⟨t, q⟩ := (show ∃ t, u = Value.int i t from ru)
    cases q
    exact ⟨_, PySem.W.kitx_int, True.intro, fun z => nomatch z⟩
  | str i =>
    have h : d = .str i := view_eq e (fun _ q => nomatch q) (fun _ q => nomatch q)
    subst h
    have := r.str
    subst this
    obtain ⟨t, q⟩ := (show ∃ t, u = Value.str i t from ru)
    cases q
    exact ⟨_, PySem.W.kitx_str, True.intro, fun z => nomatch z⟩
  | tup ds =>
    have h := view_tup e
    subst h
    obtain ⟨a, vs, rfl, h1, _⟩ := r.tup
    cases ru
    obtain ⟨its, _, ⟨o, ho, hc, _⟩, _⟩ := I.tuple h1
    exact ⟨_, PySem.W.kitx_tuple, ⟨o, ho, hc⟩, fun z => nomatch z⟩
  | scr ns =>
    have h := view_scr e
    subst h
    obtain ⟨a, rfl, h1⟩ := r.scr
    cases ru
    obtain ⟨its, _, pl, _⟩ := I.list h1
    obtain ⟨o, ho, hc, _⟩ := pl.isList
    exact ⟨_, PySem.W.kitx_list, ⟨o, ho, hc⟩, fun z => nomatch z⟩
  | dct kvs =>
    have h : d = .dct kvs := view_eq e (fun _ q => nomatch q) (fun _ q => nomatch q)
    subst h
    unfold Rp at r
    obtain ⟨a, rfl, _, r⟩ := r
    cases ru
    rcases r with ⟨kv, h1, _⟩ | ⟨kv, h1, _⟩
    · obtain ⟨_, _, vs, _, o, es, ep, h3, h4, _⟩ := h1.ok I.hok
      exact ⟨_, PySem.W.kitx_dict, ⟨o, h3, h4.1⟩, fun z => nomatch z⟩
    · obtain ⟨_, _, vs, _, o, es, ep, h3, h4, _⟩ := h1.ok I.hok
      exact ⟨_, PySem.W.kitx_dict, ⟨o, h3, h4.1⟩, fun z => nomatch z⟩
theorem isi_tab {f : Str → Str → Option Bool} {d : D} {t : Ty} {z : Bool} (h : isi S f d t = some z) :
    (∀ k, view S d ≠ .ref k) ∧ (∀ c, view S d ≠ .exc c) ∧ kitB (tyn (view S d)) (tyName t) = some z := by
  unfold isi at h
  cases t with
  | own c => cases h
  | int => cases e : view S d <;> rw [e] at h <;> cases h <;> exact ⟨(fun _ q => nomatch q), (fun _ q => nomatch q), by simp only [tyn, tyName]; decide +kernel⟩
  | bool => cases e : view S d <;> rw [e] at h <;> cases h <;> exact ⟨(fun _ q => nomatch q), (fun _ q => nomatch q), by simp only [tyn, tyName]; decide +kernel⟩
  | str => cases e : view S d <;> rw [e] at h <;> cases h <;> exact ⟨(fun _ q => nomatch q), (fun _ q => nomatch q), by simp only [tyn, tyName]; decide +kernel⟩
  | tup => cases e : view S d <;> rw [e] at h <;> cases h <;> exact ⟨(fun _ q => nomatch q), (fun _ q => nomatch q), by simp only [tyn, tyName]; decide +kernel⟩
  | lst => cases e : view S d <;> rw [e] at h <;> cases h <;> exact ⟨(fun _ q => nomatch q), (fun _ q => nomatch q), by simp only [tyn, tyName]; decide +kernel⟩
def rIsiD (K : PySem.W.Frag) (f : Str → Str → Option Bool) (t : Ty) : List V → Hp → VK → Prop := fun xs H Q => ∃ A S d x z, xs = [x, .ty (tyName t)] ∧ SR K H A S ∧ Rp K H A d x ∧ isi S f d t = some z ∧ Q (.bl z) H
theorem call_isiD (f : Str → Str → Option Bool) (t : Ty) : CallR X (.builtin "isinstance") (rIsiD X.K f t) := by
  intro pins s σ H xs us Q I r h
  obtain ⟨A, S, d, x, z, rfl, sr, hr, hf, q⟩ := h
  obtain ⟨u1, u2, rfl, r1, r2⟩ := vals2 r
  cases (show u2 = Value.type (tyName t) from r2)
  obtain ⟨n1, n2, e⟩ := isi_tab hf
  obtain ⟨P, Z, p, hx⟩ := kit_rp I sr hr r1 n1 n2
  exact PySem.W.kia_one Z I.kIn p (kit_ty e) hx fun tk => ⟨.bl z, H, I.tok tk, rfl, q⟩

/-! ### repr -/
/-- sys.modules is a dict: no list lies there -/
def SysM (K : PySem.W.Frag) : Prop := ∃ o, K.lookup sysModules = some o ∧ o.cls = .type "dict"
mutual
theorem reads_of (I : Inv X pins σ H s) (sm : SysM X.K) : ∀ (d : D) (n : Nat) (v : V) (u : Value), shw n d = true → Rp X.K H A d v → RelV v u → ∃ as, Reads s.heap u (toPy d) as ∧ sysModules ∉ as
  | .non, _, _, _, _, r, ru => by
    have := r.non; subst this
    cases (show _ = Value.none from ru)
    exact ⟨_, .none, by simp⟩
  | .bl b, _, _, _, _, r, ru => by
    have := r.bl; subst this
    cases (show _ = Value.bool b from ru)
    exact ⟨_, .bool b, by simp⟩
  | .int i, _, _, _, _, r, ru => by
    have := r.int; subst this
    obtain ⟨t, rfl⟩ := (show ∃ t, _ = Value.int i t from ru)
    exact ⟨_, .int i t, by simp⟩
  | .str x, _, _, _, _, r, ru => by
    have := r.str; subst this
    obtain ⟨t, rfl⟩ := (show ∃ t, _ = Value.str x t from ru)
    exact ⟨_, .str x t, by simp⟩
  | .tup xs, n, _, _, h, r, ru => by
    obtain ⟨a, vs, rfl, h1, h2⟩ := r.tup
    cases ru
    cases n with
    | zero => cases h
    | succ n =>
      obtain ⟨its, rv, ⟨o, ho, hc, m, hd⟩, _⟩ := I.tuple h1
      obtain ⟨as, q1, q2⟩ := readss_of I sm xs n vs its h h2 rv
      exact ⟨as, .tuple ho hc hd q1, q2⟩
  | .lst xs, n, _, _, h, r, ru => by
    obtain ⟨a, vs, rfl, h1, _, h2⟩ := r.lst
    cases ru
    cases n with
    | zero => cases h
    | succ n =>
      obtain ⟨its, rv, ⟨o, m, ho, hc, _, hd⟩, _⟩ := I.list (SqL.of h1)
      obtain ⟨as, q1, q2⟩ := readss_of I sm xs n vs its h h2 rv
      refine ⟨a :: as, .list ho hc hd q1, fun z => ?_⟩
      rcases List.mem_cons.mp z with z | z
      · obtain ⟨o', h3, h4⟩ := sm
        have h5 := I.kIn _ _ h3
        rw [z, ho] at h5
        cases h5
        rw [hc] at h4
        exact absurd h4 (by decide)
      · exact q2 z
  | .dct kvs, n, _, _, h, r, ru => by
    have e : kvs = [] := by
      cases kvs with
      | nil => rfl
      | cons _ _ => cases n <;> cases h
    subst e
    unfold Rp at r
    obtain ⟨a, rfl, _, r⟩ := r
    cases ru
    rcases r with ⟨kv, h1, h2⟩ | ⟨kv, h1, h2⟩
    · unfold RpK at h2
      subst h2
      obtain ⟨_, hs, vs, kv, o, es, ep, h3, h4, h5, _, h6, _⟩ := h1.ok I.hok
      cases kv
      have h6 : es.toList = [] := by
        cases h7 : es.toList with
        | nil => rfl
        | cons _ _ => rw [h7] at h6; cases h6
      refine ⟨a :: [] ++ [], .dict h3 h4.1 h5 (by rw [h6]; exact .nil) (by rw [h6]; exact .nil), ?_⟩
      simp only [List.append_nil, List.mem_singleton]
      exact fun z => (beq_eq_false_iff_ne.mp hs) z.symm
    · unfold RpT at h2
      subst h2
      obtain ⟨_, hs, xs, pr, o, es, ep, h3, h4, h5, h6, _⟩ := h1.ok I.hok
      cases pr
      have h6 : es.toList = [] := h6
      refine ⟨a :: [] ++ [], .dict h3 h4.1 h5 (by rw [h6]; exact .nil) (by rw [h6]; exact .nil), ?_⟩
      simp only [List.append_nil, List.mem_singleton]
      exact fun z => (beq_eq_false_iff_ne.mp hs) z.symm
  | .ref _, n, _, _, h, _, _ => by cases n <;> cases h
  | .exc _, n, _, _, h, _, _ => by cases n <;> cases h
  | .scr _, n, _, _, h, _, _ => by cases n <;> cases h
theorem readss_of (I : Inv X pins σ H s) (sm : SysM X.K) : ∀ (xs : List D) (n : Nat) (vs : List V) (us : List Value), xs.all (shw n) = true → Rps X.K H A xs vs → Vals vs us → ∃ as, ReadsAll s.heap us (toPys xs) as ∧ sysModules ∉ as
  | [], _, _, _, _, r, ru => by
    unfold Rps at r
    subst r
    cases ru
    exact ⟨_, .nil, by simp⟩
  | x :: xs, n, _, _, h, r, ru => by
    rw [List.all_cons, Bool.and_eq_true] at h
    obtain ⟨v, vs, rfl, h1, h2⟩ := r.inv
    cases ru with
    | cons r1 r2 =>
      obtain ⟨as, q1, q2⟩ := reads_of I sm x n v _ h.1 h1 r1
      obtain ⟨bs, q3, q4⟩ := readss_of I sm xs n vs _ h.2 h2 r2
      refine ⟨_, .cons q1 q3, fun z => ?_⟩
      rcases List.mem_append.mp z with z | z
      · exact q2 z
      · exact q4 z
end
theorem log_1900 {i : Nat} (h : i < 2 ^ 1900) : i.log2 < 1920 := Nat.lt_of_lt_of_le (PySem.Flt.log2_lt_of (by decide) h) (by decide)
mutual
theorem show_py : ∀ (d : D) (n : Nat), shw n d = true → (toPy d).showable = true ∧ (toPy d).depth ≤ n + 1
  | .non, _, _ => ⟨rfl, Nat.zero_le _⟩
  | .bl _, _, _ => ⟨rfl, Nat.zero_le _⟩
  | .str x, n, h => ⟨rfl, Nat.zero_le _⟩
  | .int i, n, h => by
    have h : decide (i.natAbs < 2 ^ 1900) = true := by cases n <;> exact h
    exact ⟨decide_eq_true (log_1900 (of_decide_eq_true h)), Nat.zero_le _⟩
  | .tup xs, n, h => by
    cases n with
    | zero => cases h
    | succ n =>
      obtain ⟨h1, h2⟩ := shows_py xs n h
      exact ⟨h1, Nat.succ_le_succ h2⟩
  | .lst xs, n, h => by
    cases n with
    | zero => cases h
    | succ n =>
      obtain ⟨h1, h2⟩ := shows_py xs n h
      exact ⟨h1, Nat.succ_le_succ h2⟩
  | .dct kvs, n, h => ⟨rfl, Nat.succ_le_succ (Nat.zero_le _)⟩
  | .ref _, n, h => by cases n <;> cases h
  | .exc _, n, h => by cases n <;> cases h
  | .scr _, n, h => by cases n <;> cases h
theorem shows_py : ∀ (xs : List D) (n : Nat), xs.all (shw n) = true → PyData.showableAll (toPys xs) = true ∧ PyData.depthAll (toPys xs) ≤ n + 1
  | [], _, _ => ⟨rfl, Nat.zero_le _⟩
  | x :: xs, n, h => by
    rw [List.all_cons, Bool.and_eq_true] at h
    obtain ⟨h1, h2⟩ := show_py x n h.1
    obtain ⟨h3, h4⟩ := shows_py xs n h.2
    unfold toPys PyData.showableAll PyData.depthAll
    exact ⟨by rw [h1, h3]; rfl, Nat.max_le.mpr ⟨h2, h4⟩⟩
end
theorem view_ref (S : Store) (k : Nat) : (∃ xs, view S (.ref k) = .lst xs) ∨ view S (.ref k) = .ref k := by
  show (∃ xs, (match S[k]? with
      | some (.lst xs) => D.lst xs
      | _ => D.ref k) = .lst xs) ∨ (match S[k]? with
      | some (.lst xs) => D.lst xs
      | _ => D.ref k) = .ref k
  cases S[k]? with
  | none => exact .inr rfl
  | some c => cases c <;> first | exact .inl ⟨_, rfl⟩ | exact .inr rfl
theorem view_noref {k : Nat} {n : Nat} {d : D} (h : shw n (view S d) = true) : view S d ≠ .ref k := fun e => by rw [e] at h; cases n <;> cases h
theorem view_reads (I : Inv X pins σ H s) (sm : SysM X.K) (sr : SR X.K H A S) {d : D} {v : V} {u : Value} {n : Nat} (h : shw (n + 1) (view S d) = true) (r : Rp X.K H A d v) (ru : RelV v u) :
    ∃ as, Reads s.heap u (toPy (view S d)) as ∧ sysModules ∉ as := by
  by_cases hd : ∃ k, d = .ref k
  · obtain ⟨k, rfl⟩ := hd
    rcases view_ref S k with ⟨xs, e⟩ | e
    · obtain ⟨a, vs, rfl, h1, h2⟩ := view_lst sr r e
      cases ru
      obtain ⟨its, rv, ⟨o, m, ho, hc, _, hd⟩, _⟩ := I.list (SqL.of h1)
      rw [e] at h ⊢
      obtain ⟨as, q1, q2⟩ := readss_of I sm xs n vs its h h2 rv
      refine ⟨a :: as, .list ho hc hd q1, fun z => ?_⟩
      rcases List.mem_cons.mp z with z | z
      · obtain ⟨o', h3, h4⟩ := sm
        have h5 := I.kIn _ _ h3
        rw [z, ho] at h5
        cases h5
        rw [hc] at h4
        exact absurd h4 (by decide)
      · exact q2 z
    · rw [e] at h
      cases h
  · have e : view S d = d := view_self fun k e => hd ⟨k, e⟩
    rw [e] at h ⊢
    exact reads_of I sm d _ v u h r ru
theorem call_reprD (sm : SysM X.K) (hg : X.A.guards = some []) (hu : X.A.units + 65 < cLine) : CallR X (.builtin "repr") (rBl X.K reprD) := by
  intro pins s σ H xs us Q I ru h
  obtain ⟨A, S, ds, z, sr, rr, hf, ho⟩ := h
  unfold reprD at hf
  split at hf
  · split at hf
    · rename_i d hl
      cases hf
      rw [Bool.and_eq_true, decide_eq_true_eq] at hl
      obtain ⟨v, rfl, r⟩ := rps1 rr
      obtain ⟨u, rfl, r1⟩ := vals1 ru
      obtain ⟨as, h1, h2⟩ := view_reads I sm sr (n := 29) hl.1 r r1
      clear ru r1
      obtain ⟨h3, h4⟩ := show_py _ _ hl.1
      have hsz := lim_size hl.2
      have fin : ∀ (h' : Heap) (t : Tok) (tk : Nat), (∀ b o, s.heap.get? b = some o → h'.get? b = some o) → EP X pins σ Q (.str (toPy (view S d)).shown t) { s with heap := h', toks := tk } := fun h' t tk k =>
        ⟨.str _, H, I.kept (t' := tk) k, ⟨t, rfl⟩, ho.here sr rp_str⟩
      cases u with
      | ref a => exact repr_of_reads' h1 h3 (fun _ => h2) hg (by omega) (fun _ _ q => q) fun h' t tk k => fin h' t tk k
      | none =>
        generalize toPy (view S d) = p at h1 h3 fin hsz
        cases h1
        exact PySem.P.repr_of_none (fin s.heap _ _ fun _ _ q => q)
      | bool b =>
        generalize toPy (view S d) = p at h1 h3 fin hsz
        cases h1
        exact PySem.P.repr_of_bool (fin s.heap _ _ fun _ _ q => q)
      | int i t =>
        generalize toPy (view S d) = p at h1 h3 fin hsz
        cases h1
        exact PySem.P.repr_of_int (of_decide_eq_true h3) (fin s.heap _ _ fun _ _ q => q)
      | str x t =>
        generalize toPy (view S d) = p at h1 h3 fin hsz
        cases h1
        exact PySem.P.repr_of_str (fin s.heap _ _ fun _ _ q => q) hsz
      | _ =>
        generalize toPy (view S d) = p at h1
        cases h1
    · cases hf
  · cases hf

/-! ### methods -/
theorem evs_readsOf : ∀ {ds : List PyData} {its : List Value} {h : Heap} {as : List Addr}, PyData.canLayAll0 ds = true → ReadsAll h its ds as → its.map (SeqAt.readOf h) = ds := fun hc hr => SeqAt.readsAll_map _ _ _ hc hr
def rMt (K : PySem.W.Frag) (f : Store → D → List D → Option D) : V → List V → Hp → VK → Prop := fun x xs H Q => ∃ A S d ds z, SR K H A S ∧ Rp K H A d x ∧ Rps K H A ds xs ∧ f S d ds = some z ∧ Out K A H S z Q
theorem toPys_get : ∀ (xs : List D) (i : Nat), (toPys xs)[i]? = xs[i]?.map toPy
  | [], i => by cases i <;> rfl
  | x :: xs, 0 => rfl
  | x :: xs, i + 1 => by
    unfold toPys
    rw [List.getElem?_cons_succ, List.getElem?_cons_succ]
    exact toPys_get xs i
theorem toPys_map : ∀ xs : List D, toPys xs = xs.map toPy
  | [] => rfl
  | x :: xs => by unfold toPys; rw [toPys_map xs]; rfl
theorem mt_idxD (hu : X.A.units + 65 < cLine) : MtR X "list.index" (rMt X.K idxD) := by
  intro pins s σ H x xs v us Q I rx ru h
  obtain ⟨A, S, a, ds, z, sr, ra, rr, hf, ho⟩ := h
  unfold idxD at hf
  split at hf
  · rename_i ys d e1
    split at hf
    · rename_i hl
      rw [Bool.and_eq_true] at hl
      obtain ⟨j, h1, rfl⟩ := Option.map_eq_some_iff.mp hf
      obtain ⟨w, rfl, rd⟩ := rps1 rr
      obtain ⟨p, vs, rfl, h2, h3⟩ := view_lst sr ra e1
      obtain ⟨hj1, hj2, hj3⟩ := List.findIdx?_eq_some_iff_getElem.mp h1
      refine mt_indexD hu pins s σ H _ _ v us Q I rx ru ⟨p, w, toPy d, toPys ys, j, toPy ys[j], rfl, rfl, .lst (SqL.of h2) (dps_of ys _ vs hl.2 h3), dp_of d _ w hl.1 rd, (all_59 hl.2 (by decide)).2, shaped_py hl.1, ?_, ?_, ?_, ho.here sr rp_int⟩
      · rw [toPys_get, List.getElem?_eq_getElem hj1]; rfl
      · rw [← eqv_py _ _ _ _ (List.all_eq_true.mp hl.2 _ (List.getElem_mem hj1)) hl.1]
        exact hj2
      · intro m z' hm hz
        have hml : m < ys.length := by omega
        rw [toPys_get, List.getElem?_eq_getElem hml] at hz
        cases hz
        rw [← eqv_py _ _ _ _ (List.all_eq_true.mp hl.2 _ (List.getElem_mem hml)) hl.1]
        have := hj3 m hm
        simpa using this
    · cases hf
  · cases hf
theorem mt_cntD (hu : X.A.units + 65 < cLine) : MtR X "list.count" (rMt X.K cntD) := by
  intro pins s σ H x xs v us Q I rx ru h
  obtain ⟨A, S, a, ds, z, sr, ra, rr, hf, ho⟩ := h
  unfold cntD at hf
  split at hf
  · rename_i ys d e1
    split at hf
    · rename_i hl
      rw [Bool.and_eq_true] at hl
      cases hf
      obtain ⟨w, rfl, rd⟩ := rps1 rr
      obtain ⟨p, vs, rfl, h2, h3⟩ := view_lst sr ra e1
      cases rx
      obtain ⟨u, rfl, ru1⟩ := vals1 ru
      obtain ⟨bs, r1⟩ := Dp.reads I (toPy d) w u (dp_of d _ w hl.1 rd) ru1
      obtain ⟨hc, hdp⟩ := lays_py ys _ hl.2
      obtain ⟨hc1, hdp1⟩ := lay_py d _ hl.1
      obtain ⟨its, rv, ⟨⟨cls, dd, data, sls⟩, n, ho', hcl, hdn, hdt⟩, hlen⟩ := I.list (SqL.of h2)
      simp only at hcl hdt
      subst hcl hdt
      obtain ⟨as, h4⟩ := Dp.readsAll I _ _ its (dps_of ys _ vs hl.2 h3) rv
      have hmap : its.map (SeqAt.readOf s.heap) = toPys ys := SeqAt.readsAll_map _ its as hc h4
      have hroom : X.A.units + 1 + min (PyData.depthAll (toPys ys)) (toPy d).depth < cLine := by
        have : min (PyData.depthAll (toPys ys)) (toPy d).depth ≤ (toPy d).depth := Nat.min_le_right _ _
        have : (toPy d).depth ≤ 60 := hdp1
        omega
      refine call_meets PySem.F.slot_list_count ⟨_, ho', rfl⟩ PySem.F.entry_list_count (PySem.F.args_list_count_2 _ _)
        (SeqAt.list_countAt p its.toArray n dd sls u (fun q => PyData.eqv (SeqAt.readOf s.heap q) (toPy d))) ⟨ho', SeqAt.items_eqAt (vs := its.toArray) (show ReadsAll s.heap its.toArray.toList (toPys ys) as from h4) r1 hc hc1 hroom, ?_⟩
      have ec : its.toArray.toList.countP (fun q => PyData.eqv (SeqAt.readOf s.heap q) (toPy d)) = ys.countP fun y => eqv y d := by
        show its.countP ((fun q => PyData.eqv q (toPy d)) ∘ SeqAt.readOf s.heap) = _
        rw [← List.countP_map, hmap, toPys_map, List.countP_map]
        refine List.countP_congr fun y hy => ?_
        show PyData.eqv (toPy y) (toPy d) = true ↔ _
        rw [eqv_py _ _ _ _ (List.all_eq_true.mp hl.2 _ hy) hl.1]
      refine ⟨.int (ys.countP fun y => eqv y d : Nat), H, I.tok _, ⟨s.toks, ?_⟩, ho.here sr rp_int⟩
      show Value.int ((its.toArray.toList.countP (fun q => PyData.eqv (SeqAt.readOf s.heap q) (toPy d)) : Nat) : Int) s.toks = Value.int (((ys.countP fun y => eqv y d) : Nat) : Int) s.toks
      rw [ec]
    · cases hf
  · cases hf

/-! ### truth -/
theorem rps_empty : ∀ {ds : List D} {vs : List V}, Rps X.K H A ds vs → ds.isEmpty = vs.isEmpty
  | [], _, h => by unfold Rps at h; rw [h]; rfl
  | _ :: _, _, h => by
    obtain ⟨v, r, e, _⟩ := h.inv
    rw [e]
    rfl
theorem truth_of (sr : SR X.K H A S) {d : D} {v : V} {b : Bool} (r : Rp X.K H A d v) (h : truth S d = some b) : TruV X.K v H b := by
  unfold truth at h
  split at h
  · cases h; rw [r.non]; rfl
  · cases h; rw [r.bl]; rfl
  · cases h; rw [r.int]; rfl
  · split at h
    · rename_i hl
      cases h
      rw [r.str]
      exact ⟨lim_size hl, rfl⟩
    · cases h
  · cases h
    obtain ⟨a, vs, rfl, h1, h2⟩ := r.tup
    exact .inr (.inl ⟨vs, h1, by rw [rps_empty h2]⟩)
  · cases h
    obtain ⟨a, vs, rfl, h1, _, h2⟩ := r.lst
    exact .inl ⟨vs, SqL.of h1, by rw [rps_empty h2]⟩
  · rename_i k
    split at h
    · rename_i xs e
      cases h
      obtain ⟨a, vs, rfl, h1, h2⟩ := view_lst (xs := xs) sr r (by unfold view; simp only [e])
      exact .inl ⟨vs, SqL.of h1, by rw [rps_empty h2]⟩
    · cases h
  · cases h
end
end Rs
end

section
set_option Elab.async false
set_option linter.all false
set_option maxRecDepth 100000
set_option maxHeartbeats 1000000
set_option autoImplicit false
/-! RsCall: a def's promise where no text of data is being told (repr's guards), its calls, the head. Own work over HandS. -/
namespace Rs
open PySem PySem.Spec PyProof.Rows L2

/-- as FnOk, for calls where no guard stands -/
structure GOk (P : Program) (w : World) (K : PySem.W.Frag) (mg : Str → Option Value) (base : Heap) (k : Nat) (f : Addr) (fd : FuncData) (ps : List Str) (sp : Sp) : Prop where
  len : ∀ vs H Q E, sp vs H Q E → vs.length = ps.length
  run : ∀ (A : Around) (out : List Env) (s : Shared) (H : Hp) (args : Args) (us : List Value) (vs : List V) (Q : VK) (E : XK), Room k A → A.guards = some [] →
    Env0 P w K mg base A out s H → BindsTo s fd args (ps.zip us) → Vals vs us → sp vs H Q E →
    codeAny (model P w) A (.call (.ref f) args) (CR (L2.CX P w) out P w H s Q E) s

section
variable {X : Cx} {k : Nat} {f C : Addr} {fd : FuncData} {ps : List Str} {sp : Sp}
/-- a call of the value f -/
theorem run_G {pins : List (Addr × Obj)} {σ : L2.St} {H : Hp} {s : Shared} {Q : VK} {E : XK} {us : List Value} {vs : List V} {args : Args}
    (G : GOk X.prog X.w X.K X.mg X.base k f fd ps sp) (hr : Room k X.A) (hg : X.A.guards = some [])
    (hb : us.length = ps.length → BindsTo s fd args (ps.zip us)) (hx : PassesAt (L2.CX X.prog X.w) X σ E)
    (I : Inv X pins σ H s) (r : Vals vs us) (h : sp vs H Q E) : wpAny (model X.prog X.w) X.A (call (.ref f) args.pos args.kw) (EP X pins σ Q) X.xe s := by
  have hl : us.length = ps.length := by
    rw [← r.length]
    exact G.len _ _ _ _ h
  have ha : args = ⟨args.pos, args.kw⟩ := rfl
  refine wpAny_call (codeAny_mono (G.run X.A X.stack s H args us vs Q E hr hg I.env0 (hb hl) r h) fun res s' hq => ?_)
  cases res with
  | error e => exact hx pins H s e s' I hq
  | ok fl => cases fl <;> first | exact I.after hq | exact hq.elim
/-- how such a def binds its arguments -/
def BindsAll (K : PySem.W.Frag) (fd : FuncData) (ps : List Str) : Prop := ∀ us : List Value, us.length = ps.length → bindArgs fd ⟨us, []⟩ = pure (ps.zip us)
theorem BindsAll.to {K : PySem.W.Frag} (b : BindsAll K fd ps) {s : Shared} {us : List Value} (hl : us.length = ps.length) : BindsTo s fd ⟨us, []⟩ (ps.zip us) := .of_eq (b us hl)

variable {N : List Str} {P : Program} {w : World} {K : PySem.W.Frag} {mg : Str → Option Value} {base : Heap}
/-- the rule of a def, by its body; the wish of exceptions is the promise's -/
theorem def_G {x qual : Str} {params : Arguments} {body : List Stmt} {scope : Scope} (F : FunD K x qual params body scope [] [] f fd) (S : FnScope N ps scope)
    (len : ∀ vs H Q E, sp vs H Q E → vs.length = ps.length)
    (hbody : ∀ (cd : Value) (A : Around) (out : List Env) (s : Shared) (H : Hp) (vs : List V) (Q : VK) (E : XK), Room k (A.deeper (envOfC qual scope s.heap.objs.size f cd)) → A.guards = some [] → sp vs H Q E →
      ∃ t, PSs (cxOf (L2.CX P w) P w K mg base N qual scope f cd A out s H E) body t ∧ t { nx := fun _ H' => Q .non H', rt := Q } (L2.start N vs) H) :
    GOk P w K mg base (k + 1) f fd ps sp := by
  obtain ⟨oc, od, dV, kV, doc, pm, an, cd, ct, sl, rfl, lk, hcd, _, _⟩ := F.ex
  refine ⟨len, fun A out s H args us vs Q E hr hgd e0 hb r hsp => ?_⟩
  have hlen := len vs H Q E hsp
  have kin : K.In s.heap := e0.mod.kin.keeps fun b o q => (e0.bs b o q).1
  have nolim : s.heap.NoLimit := e0.mod.nolimit.keeps fun b o q => (e0.bs b o q).1
  have kinds : ∀ y ∈ ps.zip us, scope.names.lookup y.1 = some .local ∨ (scope.names.lookup y.1 = some .cell ∧ ((cellsFrom (s.heap.objs.size + 1) scope.names []).lookup y.1).isSome = true) := by
    rintro ⟨n, v⟩ hy
    rcases S.par n (List.of_mem_zip hy).1 with q | q
    · exact .inl q
    · exact .inr ⟨q, PySem.W.cellsFrom_some _ _ _ (.inl q)⟩
  refine codeAny_call_function hr.depth (kin _ _ lk) rfl S.co S.gen rfl
    (PySem.W.codeRec_of kin hcd) (hb _ _ _ _ ?_)
  refine wpAny_newFunctionEnv_cells S.kind kinds
    fun env he s1 x => ?_
  subst he
  refine ⟨nolim.keeps x.toInCall.keep, codeAny_func ?_⟩
  obtain ⟨t, ht, hq⟩ := hbody cd A out s H vs Q E (hr.deeper _) hgd hsp
  have I := inv_start (CX := L2.CX P w) (E := E) S hr.hd e0 hlen r x
  refine wpAny_mono (ht.run [] s1 (L2.start N vs) H _ I hq) (fun fl s' hs => ?_) fun e s' hs => hs
  have done : ∀ {σ' : L2.St} {H' : Hp} {v : V} {u : Value}, Inv (cxOf (L2.CX P w) P w K mg base N qual scope f cd A out s H E) [] σ' H' s' → RelV v u → Q v H' → CE out P w H s Q u s' :=
    fun {σ' H' v u} J rv q => ⟨v, H', J.os, J.bare, J.base, J.hok, rv, q⟩
  cases fl with
  | ret u =>
    obtain ⟨v, σ', H', J, rv, q⟩ := hs
    exact done J rv q
  | next =>
    obtain ⟨σ', H', J, q⟩ := hs
    exact done (v := V.non) (u := Value.none) J rfl q
  | brk =>
    obtain ⟨_, _, _, q⟩ := hs
    exact q.elim
  | cont =>
    obtain ⟨_, _, _, q⟩ := hs
    exact q.elim
/-- at the very top there is no guard -/
theorem GOk.top (G : GOk P w K mg base k f fd ps sp) : ∀ (s : Shared) (H : Hp) (args : Args) (us : List Value) (vs : List V) (Q : VK) (E : XK), Room k callerA → Env0 P w K mg base callerA [] s H → BindsTo s fd args (ps.zip us) →
    Vals vs us → sp vs H Q E → codeAny (model P w) callerA (.call (.ref f) args) (CR (L2.CX P w) [] P w H s Q E) s :=
  fun s H args us vs Q E hr e0 hb r h => G.run callerA [] s H args us vs Q E hr rfl e0 hb r h
end

/-! ### the law's own call -/
section
variable {P : Program} {w : World} {K : PySem.W.Frag} {mg mb : Str → Option Value} {k : Nat} {fa a : Addr} {fd : FuncData} {x : Str} {sp : Sp} {s1 : Shared} {vs : List Value} {ns : List Int}
/-- from an abstract heap that tracks the script at the most -/
theorem law_core (kin : K.In s1.heap) (hns : s1.heap.Ns mainGlobals mg) (hb : s1.heap.Ns builtinsNs mb) (hbb : ∀ y : Str, y ≠ "__name__" → mb y = bootBuiltins y) (nolim : s1.heap.NoLimit) (hgens : s1.gens = #[])
    (hobj : s1.heap.get? a = some { cls := .type "list", data := .seq vs.toArray }) (room : Room k callerA)
    (G : ∀ base : Heap, K.In base → base.Ns mainGlobals mg → GOk P w K mg base k fa fd [x] sp) (bind : ∀ (s : Shared) (u : Value), BindsTo s fd ⟨[u], []⟩ [(x, u)])
    (hsp : ∀ H : Hp, Only H → SqL K H a (ns.map V.int) → sp [.ref a] H (fun v _ => v = .bl true) fun _ _ _ => False)
    (H : Hp) (only : Only H) (hS : SqL K H a (ns.map V.int)) (ok : HOk P w H s1.heap) (hA : ∀ b, H b ≠ none → b = a) (hK : H a ≠ none → K.lookup a = none) :
    codeAny (model P w) callerA (.call (.ref fa) ⟨[.ref a], []⟩) (fun r s' => r = .ok (.ret (.bool true)) ∧ OldK s1.heap s'.heap ∧ s'.os = s1.os ∧ AllBare s'.gens) s1 := by
  -- what is no dict does not lie at a
  have free_of : ∀ {b : Addr} {o : Obj}, s1.heap.get? b = some o → (∀ es ep, o.data = .dict es ep → H b = none) := by
    intro b o e es ep hd
    cases q : H b with
    | none => rfl
    | some u =>
      have hba : b = a := hA b (by rw [q]; exact fun z => nomatch z)
      rw [hba, hobj] at e
      cases e
      exact nomatch hd
  have ns_of : ∀ {b : Addr} {m : Str → Option Value}, s1.heap.Ns b m → (hidT s1.heap H).Ns b m := by
    rintro b m ⟨o, es, ep, e, d, r⟩
    exact ⟨o, es, ep, hidT_get e (free_of e es ep d), d, r⟩
  have kb : K.In (hidT s1.heap H) := by
    intro b o e
    refine hidT_get (kin b o e) ?_
    cases q : H b with
    | none => rfl
    | some u =>
      have hba : b = a := hA b (by rw [q]; exact fun z => nomatch z)
      rw [hba] at q e
      rw [hK (by rw [q]; exact fun z => nomatch z)] at e
      cases e
  have md : Mod K mg (hidT s1.heap H) := by
    obtain ⟨mc, h1, h2⟩ := nolim
    exact ⟨kb, ns_of hns, ⟨mb, ns_of hb, hbb⟩, ⟨mc, ns_of h1, h2⟩⟩
  have e0 : Env0 P w K mg (hidT s1.heap H) callerA [] s1 H :=
    ⟨rfl, md, fun b o e => of_hidT e, Nat.le_of_eq (hidT_size s1.heap H), trivial, fun b hb => (List.not_mem_nil hb).elim, ok, .of_eq hgens⟩
  refine codeAny_mono ((G _ kb (ns_of hns)).top s1 H ⟨[.ref a], []⟩ [.ref a] [.ref a] _ _ room e0 (bind s1 (.ref a)) (.cons rfl .nil) (hsp H only hS)) fun r s' hr => ?_
  cases r with
  | error e =>
    obtain ⟨_, _, _, _, _, _, _, _, _, _, _, _, z⟩ := hr
    exact z.elim
  | ok fl =>
    cases fl <;> first | exact hr.elim | skip
    rename_i u
    obtain ⟨v, H', os, bare, un, hok', rv, q⟩ := hr
    have q : v = .bl true := q
    subst q
    obtain rfl : u = Value.bool true := rv
    refine ⟨rfl, OldK.of_keep fun b o e => ?_, os, bare⟩
    rcases only b with z | ⟨ob, xs, z⟩
    · exact un.keep b o e z (fun h => (List.not_mem_nil h).elim) (fun h => (List.not_mem_nil h).elim)
    · obtain ⟨e1, _⟩ := ok b _ z
      obtain ⟨e2, _⟩ := hok' b _ (un.frzs b ob _ z)
      rw [e] at e1
      cases e1
      exact e2
theorem law_G (kin : K.In s1.heap) (hns : s1.heap.Ns mainGlobals mg) (hb : s1.heap.Ns builtinsNs mb) (hbb : ∀ y : Str, y ≠ "__name__" → mb y = bootBuiltins y) (nolim : s1.heap.NoLimit) (hgens : s1.gens = #[])
    (hobj : s1.heap.get? a = some { cls := .type "list", data := .seq vs.toArray }) (hi : IntsAre vs ns) (hl : ns.length ≤ sizeLine) (room : Room k callerA)
    (G : ∀ base : Heap, K.In base → base.Ns mainGlobals mg → GOk P w K mg base k fa fd [x] sp) (bind : ∀ (s : Shared) (u : Value), BindsTo s fd ⟨[u], []⟩ [(x, u)])
    (hsp : ∀ H : Hp, Only H → SqL K H a (ns.map V.int) → sp [.ref a] H (fun v _ => v = .bl true) fun _ _ _ => False) :
    codeAny (model P w) callerA (.call (.ref fa) ⟨[.ref a], []⟩) (fun r s' => r = .ok (.ret (.bool true)) ∧ OldK s1.heap s'.heap ∧ s'.os = s1.os ∧ AllBare s'.gens) s1 := by
  have rv := vals_ints hi
  cases hk : K.lookup a with
  | some o =>
    have e := kin a o hk
    rw [hobj] at e
    cases e
    refine law_core kin hns hb hbb nolim hgens hobj room G bind hsp (fun _ => none) (fun _ => .inl rfl) ?_ (fun b u z => nomatch z) (fun b z => (z rfl).elim) fun z => (z rfl).elim
    exact .inr ⟨_, vs.toArray, _, hk, rfl, rfl, rfl, by rw [List.size_toArray, hi.length]; exact hl, by simpa using rv⟩
  | none =>
    have at_a : (fun b => if b = a then some (HO.frz { cls := .type "list", data := .seq vs.toArray } (.lst (ns.map V.int))) else none : Hp) a = some (.frz { cls := .type "list", data := .seq vs.toArray } (.lst (ns.map V.int))) := if_pos rfl
    have off_a : ∀ b, b ≠ a → (fun b => if b = a then some (HO.frz { cls := .type "list", data := .seq vs.toArray } (.lst (ns.map V.int))) else none : Hp) b = none := fun b hb => if_neg hb
    generalize (fun b => if b = a then some (HO.frz { cls := .type "list", data := .seq vs.toArray } (.lst (ns.map V.int))) else none : Hp) = H at at_a off_a
    refine law_core kin hns hb hbb nolim hgens hobj room G bind hsp H (fun b => ?_) (.inl (.inr ⟨_, at_a⟩)) (fun b u z => ?_) (fun b z => ?_) fun _ => hk
    · by_cases hb : b = a
      · exact .inr ⟨_, _, by rw [hb]; exact at_a⟩
      · exact .inl (off_a b hb)
    · by_cases hb : b = a
      · rw [hb, at_a] at z
        cases z
        rw [hb]
        exact ⟨hobj, by rw [List.length_map]; exact hl, vs, _, rv, hobj⟩
      · rw [off_a b hb] at z
        cases z
    · by_cases hb : b = a
      · exact hb
      · exact (z (off_a b hb)).elim
end
/-- the goal that the head leaves -/
theorem walk_G {l : PySem.W.OpenLaw} {n k : Nat} {q : Program} {loose : List Str} {XP : (Str → Option Value) → Heap → Prop} {YP : World → Heap → Prop} {d : DefRec} {x : Str}
    (hn : l.most = some n) (hn2 : n ≤ sizeLine) (hdf : d.params.defaults = []) (room : Room k callerA)
    (F : ∀ (w : World) (mg : Str → Option Value) (fa : Addr) (h : Heap), YP w h → h.Ns mainGlobals mg → mg d.name = some (.ref fa) →
      ∃ (K : PySem.W.Frag) (fd : FuncData) (sp : Sp), K.In h ∧ (∀ (s : Shared) (u : Value), BindsTo s fd ⟨[u], []⟩ [(x, u)]) ∧
        (∀ (H : Hp) (a : Addr) (ns : List Int), ns.length ≤ n → (∀ i ∈ ns, Builtin.Int.intBits i ≤ 1048576) → Only H → SqL K H a (ns.map V.int) → sp [.ref a] H (fun v _ => v = .bl true) fun _ _ _ => False) ∧
        ∀ base : Heap, K.In base → base.Ns mainGlobals mg → GOk l.prog w K mg base k fa fd [x] sp) :
    PySem.W.WalkO q loose XP YP l.row.toRowW d [] (fun f vs => PySem.call f vs) := by
  refine Att.attach_callB hn hdf fun w s0 s1 mg mb fa o pm cd doc a vs ns Gr Y ho hd hcd hmg hobj hi hlen hbits hg => ?_
  obtain ⟨K, fd, sp, kin, hb, hsp, hF⟩ := F w mg fa _ Y Gr.T.g hmg
  exact law_G kin Gr.T.g Gr.T.b Gr.T.builtins Gr.T.nolimit hg hobj hi (Nat.le_trans hlen hn2) room hF hb fun H hO hS => hsp H a ns hlen hbits hO hS
end Rs
end

section
set_option Elab.async false
set_option linter.all false
set_option maxRecDepth 100000
set_option maxHeartbeats 1000000
set_option autoImplicit false
/-! RsSnd1: the rules of expressions: what the evaluator says is what comes. Own work. -/
namespace Rs
open PySem PySem.Spec PyProof.Rows L2

/-! ### what is wanted of a result -/
def Exo (K : PySem.W.Frag) (W : WX) (σ : L2.St) (A : Ads) (H : Hp) (c : Str) (S : Store) : Prop :=
  ∀ A' H', Ext A H A' H' → SR K H' A' S → W (.ref (He.ga K c)) none σ H'
def RP (K : PySem.W.Frag) (W : WX) (σ : L2.St) (A : Ads) (H : Hp) (r : R D) (Q : VK) : Prop :=
  match r with
  | .ok d S => Out K A H S d Q
  | .exc c S => Exo K W σ A H c S
  | .bad => False
def Outs (K : PySem.W.Frag) (A : Ads) (H : Hp) (S : Store) (ds : List D) (Q : List V → Hp → Prop) : Prop :=
  ∀ vs H' A', Ext A H A' H' → SR K H' A' S → Rps K H' A' ds vs → Q vs H'
def RPs (K : PySem.W.Frag) (W : WX) (σ : L2.St) (A : Ads) (H : Hp) (r : R (List D)) (Q : List V → Hp → Prop) : Prop :=
  match r with
  | .ok ds S => Outs K A H S ds Q
  | .exc c S => Exo K W σ A H c S
  | .bad => False
section
variable {K : PySem.W.Frag} {W : WX} {σ : L2.St} {A A' : Ads} {H H' : Hp}
theorem Exo.mono {c : Str} {S : Store} (h : Exo K W σ A H c S) (x : Ext A H A' H') : Exo K W σ A' H' c S := fun A2 H2 y s => h A2 H2 (x.trans y) s
theorem RP.mono {r : R D} {Q : VK} (h : RP K W σ A H r Q) (x : Ext A H A' H') : RP K W σ A' H' r Q := by
  cases r with
  | ok d S => exact Out.mono h x
  | exc c S => exact Exo.mono h x
  | bad => exact h
theorem RPs.mono {r : R (List D)} {Q : List V → Hp → Prop} (h : RPs K W σ A H r Q) (x : Ext A H A' H') : RPs K W σ A' H' r Q := by
  cases r with
  | ok d S => exact fun vs H2 A2 y s r => h vs H2 A2 (x.trans y) s r
  | exc c S => exact Exo.mono h x
  | bad => exact h
theorem RP.imp {r : R D} {Q Q' : VK} (h : RP K W σ A H r Q) (k : ∀ v H', Q v H' → Q' v H') : RP K W σ A H r Q' := by
  cases r with
  | ok d S => exact Out.imp h k
  | exc c S => exact h
  | bad => exact h
theorem RPs.imp {r : R (List D)} {Q Q' : List V → Hp → Prop} (h : RPs K W σ A H r Q) (k : ∀ v H', Q v H' → Q' v H') : RPs K W σ A H r Q' := by
  cases r with
  | ok d S => exact fun vs H2 A2 y s r => k _ _ (h vs H2 A2 y s r)
  | exc c S => exact h
  | bad => exact h
/-- first r, then f -/
theorem RP.bind {r : R D} {f : D → Store → R D} {Q : VK} (h : RP K W σ A H (r.bind f) Q) :
    RP K W σ A H r fun v H1 => ∃ A1 S1 d, Ext A H A1 H1 ∧ SR K H1 A1 S1 ∧ Rp K H1 A1 d v ∧ RP K W σ A1 H1 (f d S1) Q := by
  cases r with
  | ok d S => exact fun v H1 A1 x s r => ⟨A1, S, d, x, s, r, RP.mono (r := f d S) h x⟩
  | exc c S => exact h
  | bad => exact h
theorem RP.binds {r : R D} {f : D → Store → R (List D)} {Q : List V → Hp → Prop} (h : RPs K W σ A H (r.bind f) Q) :
    RP K W σ A H r fun v H1 => ∃ A1 S1 d, Ext A H A1 H1 ∧ SR K H1 A1 S1 ∧ Rp K H1 A1 d v ∧ RPs K W σ A1 H1 (f d S1) Q := by
  cases r with
  | ok d S => exact fun v H1 A1 x s r => ⟨A1, S, d, x, s, r, RPs.mono (r := f d S) h x⟩
  | exc c S => exact h
  | bad => exact h
theorem RPs.bind {r : R (List D)} {f : List D → Store → R D} {Q : VK} (h : RP K W σ A H (r.bind f) Q) :
    RPs K W σ A H r fun v H1 => ∃ A1 S1 d, Ext A H A1 H1 ∧ SR K H1 A1 S1 ∧ Rps K H1 A1 d v ∧ RP K W σ A1 H1 (f d S1) Q := by
  cases r with
  | ok d S => exact fun v H1 A1 x s r => ⟨A1, S, d, x, s, r, RP.mono (r := f d S) h x⟩
  | exc c S => exact h
  | bad => exact h
theorem RPs.binds {r : R (List D)} {f : List D → Store → R (List D)} {Q : List V → Hp → Prop} (h : RPs K W σ A H (r.bind f) Q) :
    RPs K W σ A H r fun v H1 => ∃ A1 S1 d, Ext A H A1 H1 ∧ SR K H1 A1 S1 ∧ Rps K H1 A1 d v ∧ RPs K W σ A1 H1 (f d S1) Q := by
  cases r with
  | ok d S => exact fun v H1 A1 x s r => ⟨A1, S, d, x, s, r, RPs.mono (r := f d S) h x⟩
  | exc c S => exact h
  | bad => exact h
theorem RP.of {o : Option D} {S : Store} {Q : VK} (h : RP K W σ A H (R.of o S) Q) : ∃ d, o = some d ∧ Out K A H S d Q := by
  cases o with
  | none => exact h.elim
  | some d => exact ⟨d, rfl, h⟩
end

/-! ### readings -/
def tE (K : PySem.W.Frag) (fx : Fx) (W : WX) (e : E) : TE := fun σ H Q => ∃ env A S, EnvR K H A env σ ∧ SR K H A S ∧ RP K W σ A H (evE fx e env S) Q
def tEs (K : PySem.W.Frag) (fx : Fx) (W : WX) (es : Es) : TA := fun σ H Q => ∃ env A S, EnvR K H A env σ ∧ SR K H A S ∧ RPs K W σ A H (evEs fx es env S) Q
/-- a test: the value's truth -/
def RT (K : PySem.W.Frag) (W : WX) (σ : L2.St) (A : Ads) (H : Hp) (r : R D) (Q : Bool → Hp → Prop) : Prop :=
  match r with
  | .ok d S => ∃ b, truth S d = some b ∧ ∀ A' H', Ext A H A' H' → SR K H' A' S → Q b H'
  | .exc c S => Exo K W σ A H c S
  | .bad => False
def tT (K : PySem.W.Frag) (fx : Fx) (W : WX) (e : E) : TT := fun σ H Q => ∃ env A S, EnvR K H A env σ ∧ SR K H A S ∧ RT K W σ A H (evE fx e env S) Q
section
variable {K : PySem.W.Frag} {W : WX} {σ : L2.St} {A A' : Ads} {H H' : Hp}
theorem RT.mono {r : R D} {Q : Bool → Hp → Prop} (h : RT K W σ A H r Q) (x : Ext A H A' H') : RT K W σ A' H' r Q := by
  cases r with
  | ok d S => obtain ⟨b, h1, h2⟩ := h; exact ⟨b, h1, fun A2 H2 y s => h2 A2 H2 (x.trans y) s⟩
  | exc c S => exact Exo.mono h x
  | bad => exact h
theorem RT.imp {r : R D} {Q Q' : Bool → Hp → Prop} (h : RT K W σ A H r Q) (k : ∀ v H', Q v H' → Q' v H') : RT K W σ A H r Q' := by
  cases r with
  | ok d S => obtain ⟨b, h1, h2⟩ := h; exact ⟨b, h1, fun A2 H2 y s => k _ _ (h2 A2 H2 y s)⟩
  | exc c S => exact h
  | bad => exact h
/-- a value's reading gives its test's -/
theorem RT.of {r : R D} {Q : Bool → Hp → Prop} (h : RT K W σ A H r Q) (KX : K = K) : RP K W σ A H r fun v H1 => ∃ b A1 S1 d, Ext A H A1 H1 ∧ SR K H1 A1 S1 ∧ Rp K H1 A1 d v ∧ truth S1 d = some b ∧ Q b H1 := by
  cases r with
  | ok d S => obtain ⟨b, h1, h2⟩ := h; exact fun v H1 A1 x s r => ⟨b, A1, S, d, x, s, r, h1, h2 A1 H1 x s⟩
  | exc c S => exact h
  | bad => exact h
end

/-! ### the rules -/
section
variable {X : Cx} {fx : Fx} {W : WX} {pos : Pos}
theorem PE.imp {e : Expr} {t t' : TE} (h : PE X e t) (k : ∀ σ H Q, t' σ H Q → t σ H Q) : PE X e t' := ⟨fun pins s σ H Q I q => h.run pins s σ H Q I (k σ H Q q)⟩
theorem PT.imp {e : Expr} {t t' : TT} (h : PT X e t) (k : ∀ σ H Q, t' σ H Q → t σ H Q) : PT X e t' := ⟨fun pins s σ H Q I q => h.run pins s σ H Q I (k σ H Q q)⟩
theorem PA.imp {e : List Expr} {t t' : TA} (h : PA X e t) (k : ∀ σ H Q, t' σ H Q → t σ H Q) : PA X e t' := ⟨fun pos pins s σ H Q I q => h.run pos pins s σ H Q I (k σ H Q q)⟩
theorem RP.bad {K : PySem.W.Frag} {σ : L2.St} {A : Ads} {H : Hp} {Q : VK} (h : RP K W σ A H .bad Q) : False := h

theorem r_var {i : Nat} {x : Str} (hN : X.N[i]? = some x) (hv : Vis X.env.scope x) (hd : (x == ("__debug__" : Str)) = false) (hcd : (x == ("__classdict__" : Str)) = false) : PE X (.Name x pos) (tE X.K fx W (.var i)) :=
  PE.imp (pe_var hN hv hd hcd) fun σ H Q ⟨env, A, S, hE, hS, h⟩ => by
    unfold evE at h
    obtain ⟨d, h1, h2⟩ := RP.of h
    obtain ⟨v, h3, h4⟩ := hE.get h1
    exact ⟨v, h3, h2.here hS h4⟩
theorem r_int {i : Int} {j : Nat} : PE X (.Constant (.int i) j pos) (tE X.K fx W (.cst (.int i))) :=
  PE.imp pe_int fun σ H Q ⟨env, A, S, hE, hS, h⟩ => by
    unfold evE at h
    exact Out.here h hS rp_int
theorem r_bl {i : Bool} {j : Nat} : PE X (.Constant (.bool i) j pos) (tE X.K fx W (.cst (.bl i))) :=
  PE.imp pe_bl fun σ H Q ⟨env, A, S, hE, hS, h⟩ => by
    unfold evE at h
    exact Out.here h hS rp_bl
theorem r_non {j : Nat} : PE X (.Constant .none j pos) (tE X.K fx W (.cst .non)) :=
  PE.imp pe_non fun σ H Q ⟨env, A, S, hE, hS, h⟩ => by
    unfold evE at h
    exact Out.here h hS rp_non
theorem r_str {i : Str} {j : Nat} : PE X (.Constant (.str i) j pos) (tE X.K fx W (.cst (.str i))) :=
  PE.imp pe_str fun σ H Q ⟨env, A, S, hE, hS, h⟩ => by
    unfold evE at h
    exact Out.here h hS rp_str
theorem r_globI {x : Str} {i : Int} {t : Tok} (hg : Gl X x) (hm : X.mg x = some (.int i t)) (hd : (x == ("__debug__" : Str)) = false) : PE X (.Name x pos) (tE X.K fx W (.glo x (.int i))) :=
  PE.imp (pe_glob (v := .int i) hg hm ⟨t, rfl⟩ hd) fun σ H Q ⟨env, A, S, hE, hS, h⟩ => by
    unfold evE at h
    exact Out.here h hS rp_int
theorem r_globS {x : Str} {i : Str} {t : Tok} (hg : Gl X x) (hm : X.mg x = some (.str i t)) (hd : (x == ("__debug__" : Str)) = false) : PE X (.Name x pos) (tE X.K fx W (.glo x (.str i))) :=
  PE.imp (pe_glob (v := .str i) hg hm ⟨t, rfl⟩ hd) fun σ H Q ⟨env, A, S, hE, hS, h⟩ => by
    unfold evE at h
    exact Out.here h hS rp_str
/-- arguments -/
theorem r_nil : PA X [] (tEs X.K fx W .nil) :=
  PA.imp pa_nil fun σ H Q ⟨env, A, S, hE, hS, h⟩ => by
    unfold evEs at h
    exact h [] H A (Ext.refl A H) hS Rps.nil
theorem r_cons {e : Expr} {es : List Expr} {e' : E} {es' : Es} (he : PE X e (tE X.K fx W e')) (hr : PA X es (tEs X.K fx W es')) (hs : starEach (e :: es) X.env = (false, eval e X.env) :: starEach es X.env) :
    PA X (e :: es) (tEs X.K fx W (.cons e' es')) :=
  PA.imp (pa_cons he hr hs) fun σ H Q ⟨env, A, S, hE, hS, h⟩ => by
    unfold evEs at h
    refine ⟨env, A, S, hE, hS, (RP.binds h).imp fun v H1 ⟨A1, S1, d, x1, s1, r1, h1⟩ => ?_⟩
    refine ⟨env, A1, S1, hE.mono x1 hS.noTup, s1, (RPs.binds h1).imp fun vs H2 ⟨A2, S2, ds, x2, s2, r2, h2⟩ => ?_⟩
    exact h2 _ H2 A2 (Ext.refl A2 H2) s2 (.cons (r1.mono x2 s1.noTup) r2)
/-- a size that the display checks -/
theorem r_tup {es : List Expr} {es' : Es} {k : Nat} (h : PA X es (tEs X.K fx W es')) : PE X (.Tuple es k pos) (tE X.K fx W (.tup es')) :=
  PE.imp (pe_tup h) fun σ H Q ⟨env, A, S, hE, hS, h⟩ => by
    unfold evE at h
    refine ⟨env, A, S, hE, hS, (RPs.bind h).imp fun vs H1 ⟨A1, S1, ds, x1, s1, r1, h1⟩ => ?_⟩
    split at h1
    · rename_i hl
      exact ⟨by rw [← r1.length]; exact lim_size hl, fun p hp => Out.tupN h1 s1 r1 hp⟩
    · exact h1.elim
theorem r_lst {es : List Expr} {es' : Es} (h : PA X es (tEs X.K fx W es')) : PE X (.List es pos) (tE X.K fx W (.lst es')) :=
  PE.imp (pe_lst h) fun σ H Q ⟨env, A, S, hE, hS, h⟩ => by
    unfold evE at h
    refine ⟨env, A, S, hE, hS, (RPs.bind h).imp fun vs H1 ⟨A1, S1, ds, x1, s1, r1, h1⟩ => ?_⟩
    split at h1
    · rename_i hl
      exact ⟨by rw [← r1.length]; exact lim_size hl, fun p hp => Out.lstN h1 s1 r1 hp⟩
    · exact h1.elim
/-- two operands in a row -/
theorem tE2 {K : PySem.W.Frag} {σ : L2.St} {H : Hp} {Q : VK} {a b : E} {f : D → D → Store → R D} {env : Nv} {A : Ads} {S : Store} (hE : EnvR K H A env σ) (hS : SR K H A S)
    (h : RP K W σ A H ((evE fx a env S).bind fun x S => (evE fx b env S).bind fun y S => f x y S) Q) {R2 : V → V → Hp → Prop}
    (k : ∀ x y d e A2 S2 H2, Ext A H A2 H2 → EnvR K H2 A2 env σ → SR K H2 A2 S2 → Rp K H2 A2 d x → Rp K H2 A2 e y → RP K W σ A2 H2 (f d e S2) Q → R2 x y H2) :
    tE K fx W a σ H fun x H1 => tE K fx W b σ H1 fun y H2 => R2 x y H2 := by
  refine ⟨env, A, S, hE, hS, (RP.bind h).imp fun v H1 ⟨A1, S1, d, x1, s1, r1, h1⟩ => ?_⟩
  have hE1 := hE.mono x1 hS.noTup
  refine ⟨env, A1, S1, hE1, s1, (RP.bind h1).imp fun u H2 ⟨A2, S2, e, x2, s2, r2, h2⟩ => ?_⟩
  exact k v u d e A2 S2 H2 (x1.trans x2) (hE1.mono x2 s1.noTup) s2 (r1.mono x2 s1.noTup) r2 h2
theorem r_bop {o : Bop} {a b : Expr} {a' b' : E} (ha : PE X a (tE X.K fx W a')) (hb : PE X b (tE X.K fx W b')) : PE X (.BinOp a (opOf o) b pos) (tE X.K fx W (.bop o a' b')) :=
  PE.imp (pe_op (op_bops o) ha hb) fun σ H Q ⟨env, A, S, hE, hS, h⟩ => by
    unfold evE at h
    refine tE2 hE hS h fun x y d e A2 S2 H2 _ _ s2 r1 r2 h2 => ?_
    obtain ⟨z, h3, h4⟩ := RP.of h2
    exact ⟨A2, S2, d, e, z, s2, r1, r2, h3, h4⟩
theorem r_neg {a : Expr} {a' : E} (ha : PE X a (tE X.K fx W a')) : PE X (.UnaryOp .USub a pos) (tE X.K fx W (.neg a')) :=
  PE.imp (pe_un un_neg ha) fun σ H Q ⟨env, A, S, hE, hS, h⟩ => by
    unfold evE at h
    refine ⟨env, A, S, hE, hS, (RP.bind h).imp fun v H1 ⟨A1, S1, d, x1, s1, r1, h1⟩ => ?_⟩
    split at h1
    · exact ⟨_, r1.int, Out.here h1 s1 rp_int⟩
    · exact h1.elim
theorem r_cmp (hu : X.A.units + 65 < cLine) {o : Cop} {a b : Expr} {a' b' : E} (ha : PE X a (tE X.K fx W a')) (hb : PE X b (tE X.K fx W b')) (hm : behindInMarks (cmpOf o) b = false) :
    PE X (.Compare a [cmpOf o] [b] pos) (tE X.K fx W (.cmp o a' b')) :=
  PE.imp (pe_cmpR (op_cops hu o) ha hb hm) fun σ H Q ⟨env, A, S, hE, hS, h⟩ => by
    unfold evE at h
    refine tE2 hE hS h fun x y d e A2 S2 H2 _ _ s2 r1 r2 h2 => ?_
    obtain ⟨z, h3, h4⟩ := RP.of h2
    obtain ⟨b, h5, rfl⟩ := Option.map_eq_some_iff.mp h3
    exact ⟨A2, S2, d, e, b, s2, r1, r2, h5, h4.here s2 rp_bl⟩
theorem r_cmpT (hu : X.A.units + 65 < cLine) {o : Cop} {a b : Expr} {a' b' : E} (ha : PE X a (tE X.K fx W a')) (hb : PE X b (tE X.K fx W b')) (hm : behindInMarks (cmpOf o) b = false) :
    PT X (.Compare a [cmpOf o] [b] pos) (tT X.K fx W (.cmp o a' b')) :=
  PT.imp (pt_cmpR (op_cops hu o) ha hb hm) fun σ H Q ⟨env, A, S, hE, hS, h⟩ => by
    have h := RT.of h rfl
    unfold evE at h
    refine tE2 hE hS h fun x y d e A2 S2 H2 _ _ s2 r1 r2 h2 => ?_
    obtain ⟨z, h3, h4⟩ := RP.of h2
    obtain ⟨b, h5, rfl⟩ := Option.map_eq_some_iff.mp h3
    refine ⟨A2, S2, d, e, b, s2, r1, r2, h5, b, rfl, ?_⟩
    obtain ⟨b', A3, S3, d3, x3, s3, r3, t3, q⟩ := h4.here s2 rp_bl
    have e3 : d3 = .bl b := by
      cases d3 with
      | bl b2 => have := r3.bl; cases this; rfl
      | non => exact nomatch r3.non
      | int i => exact nomatch r3.int
      | str i => exact nomatch r3.str
      | tup i => obtain ⟨_, _, z, _⟩ := r3.tup; cases z
      | lst i => obtain ⟨_, _, z, _⟩ := r3.lst; cases z
      | dct i => unfold Rp at r3; obtain ⟨_, z, _⟩ := r3; cases z
      | ref i => obtain ⟨_, _, _, z⟩ := r3.ref; cases z
      | exc i => unfold Rp at r3; exact r3.elim
      | scr i => obtain ⟨_, z, _⟩ := r3.scr; cases z
    subst e3
    cases t3
    exact q
end
end Rs
end

section
set_option Elab.async false
set_option linter.all false
set_option maxRecDepth 100000
set_option maxHeartbeats 1000000
set_option autoImplicit false
/-! RsSnd2: further rules of expressions. Own work. -/
namespace Rs
open PySem PySem.Spec PyProof.Rows L2
section
variable {X : Cx} {fx : Fx} {W : WX} {pos : Pos}
theorem bl_inv {K : PySem.W.Frag} {H : Hp} {A : Ads} {d : D} {b : Bool} (r : Rp K H A d (.bl b)) : d = .bl b := by
  cases d with
  | bl b2 => have := r.bl; cases this; rfl
  | non => exact nomatch r.non
  | int i => exact nomatch r.int
  | str i => exact nomatch r.str
  | tup i => obtain ⟨_, _, z, _⟩ := r.tup; cases z
  | lst i => obtain ⟨_, _, z, _⟩ := r.lst; cases z
  | dct i => unfold Rp at r; obtain ⟨_, z, _⟩ := r; cases z
  | ref i => obtain ⟨_, _, _, z⟩ := r.ref; cases z
  | exc i => unfold Rp at r; exact r.elim
  | scr i => obtain ⟨_, z, _⟩ := r.scr; cases z
/-- of a bool that came, what the test wanted -/
theorem RT.bl {K : PySem.W.Frag} {σ : L2.St} {A : Ads} {H : Hp} {S : Store} {Q : Bool → Hp → Prop} {b : Bool} (h : RT K W σ A H (.ok (.bl b) S) Q) (s : SR K H A S) : Q b H := by
  obtain ⟨b', h1, h2⟩ := h
  cases h1
  exact h2 A H (Ext.refl A H) s
theorem RT.bind {K : PySem.W.Frag} {σ : L2.St} {A : Ads} {H : Hp} {r : R D} {f : D → Store → R D} {Q : Bool → Hp → Prop} (h : RT K W σ A H (r.bind f) Q) :
    RP K W σ A H r fun v H1 => ∃ A1 S1 d, Ext A H A1 H1 ∧ SR K H1 A1 S1 ∧ Rp K H1 A1 d v ∧ RT K W σ A1 H1 (f d S1) Q := by
  cases r with
  | ok d S => exact fun v H1 A1 x s r => ⟨A1, S, d, x, s, r, RT.mono (r := f d S) h x⟩
  | exc c S => exact h
  | bad => exact h
/-- first r's truth -/
theorem RP.bindT {K : PySem.W.Frag} {σ : L2.St} {A : Ads} {H : Hp} {r : R D} {f : Bool → D → Store → R D} {Q : VK} (h : RP K W σ A H (r.bind fun x S => match truth S x with
      | some b => f b x S
      | none => .bad) Q) : RT K W σ A H r fun b H1 => ∃ A1 S1 d, Ext A H A1 H1 ∧ SR K H1 A1 S1 ∧ RP K W σ A1 H1 (f b d S1) Q := by
  cases r with
  | ok d S =>
    have h : RP K W σ A H (match truth S d with
      | some b => f b d S
      | none => .bad) Q := h
    cases e : truth S d with
    | none => rw [e] at h; exact h.elim
    | some b =>
      rw [e] at h
      exact ⟨b, e, fun A1 H1 x s => ⟨A1, S, d, x, s, RP.mono (r := f b d S) h x⟩⟩
  | exc c S => exact h
  | bad => exact h
theorem RT.bindT {K : PySem.W.Frag} {σ : L2.St} {A : Ads} {H : Hp} {r : R D} {f : Bool → D → Store → R D} {Q : Bool → Hp → Prop} (h : RT K W σ A H (r.bind fun x S => match truth S x with
      | some b => f b x S
      | none => .bad) Q) : RT K W σ A H r fun b H1 => ∃ A1 S1 d, Ext A H A1 H1 ∧ SR K H1 A1 S1 ∧ truth S1 d = some b ∧ RT K W σ A1 H1 (f b d S1) Q := by
  cases r with
  | ok d S =>
    have h : RT K W σ A H (match truth S d with
      | some b => f b d S
      | none => .bad) Q := h
    cases e : truth S d with
    | none => rw [e] at h; exact h.elim
    | some b =>
      rw [e] at h
      exact ⟨b, e, fun A1 H1 x s => ⟨A1, S, d, x, s, e, RT.mono (r := f b d S) h x⟩⟩
  | exc c S => exact h
  | bad => exact h
/-- a test by its value's truth -/
theorem r_truth {e : Expr} {e' : E} (h : PE X e (tE X.K fx W e')) (he : ∀ whole, isTrue e X.env whole = (do let v ← whole; standAt e.pos; holding [v] (truthy v))) : PT X e (tT X.K fx W e') :=
  PT.imp (pt_truth h he) fun σ H Q ⟨env, A, S, hE, hS, h⟩ =>
    ⟨env, A, S, hE, hS, (RT.of h rfl).imp fun v H1 ⟨b, A1, S1, d, x, s, r, t, q⟩ => ⟨b, truth_of s r t, q⟩⟩
theorem r_chn (hu : X.A.units + 65 < cLine) {o p : Cop} {a b c : Expr} {a' b' c' : E} (ha : PE X a (tE X.K fx W a')) (hb : PE X b (tE X.K fx W b')) (hc : PE X c (tE X.K fx W c'))
    (hm : lastMarks [cmpOf o, cmpOf p] [b, c] = false) : PE X (.Compare a [cmpOf o, cmpOf p] [b, c] pos) (tE X.K fx W (.chn o p a' b' c')) :=
  PE.imp (pe_chain (op_cops hu o) (op_cops hu p) ha hb hc hm) fun σ H Q ⟨env, A, S, hE, hS, h⟩ => by
    unfold evE at h
    refine tE2 hE hS h fun x y d e A2 S2 H2 x2 hE2 s2 r1 r2 h2 => ?_
    split at h2
    · rename_i e1
      refine ⟨A2, S2, d, e, true, s2, r1, r2, e1, true, rfl, ?_⟩
      rw [if_pos rfl]
      refine ⟨env, A2, S2, hE2, s2, (RP.bind h2).imp fun u H3 ⟨A3, S3, g, x3, s3, r3, h3⟩ => ?_⟩
      obtain ⟨z, h4, h5⟩ := RP.of h3
      obtain ⟨k, h6, rfl⟩ := Option.map_eq_some_iff.mp h4
      exact ⟨A3, S3, e, g, k, s3, r2.mono x3 s2.noTup, r3, h6, h5.here s3 rp_bl⟩
    · rename_i e1
      refine ⟨A2, S2, d, e, false, s2, r1, r2, e1, false, rfl, ?_⟩
      rw [if_neg Bool.false_ne_true]
      exact Out.here h2 s2 rp_bl
    · exact h2.elim
theorem r_chnT (hu : X.A.units + 65 < cLine) {o p : Cop} {a b c : Expr} {a' b' c' : E} (ha : PE X a (tE X.K fx W a')) (hb : PE X b (tE X.K fx W b')) (hc : PE X c (tE X.K fx W c'))
    (hm : lastMarks [cmpOf o, cmpOf p] [b, c] = false) : PT X (.Compare a [cmpOf o, cmpOf p] [b, c] pos) (tT X.K fx W (.chn o p a' b' c')) :=
  PT.imp (pt_chain (op_cops hu o) (op_cops hu p) ha hb hc hm) fun σ H Q ⟨env, A, S, hE, hS, h⟩ => by
    have h := RT.of h rfl
    unfold evE at h
    have fin : ∀ {v : V} {H1 : Hp} {k : Bool} (e : v = .bl k), (∃ b A1 S1 d, Ext A H A1 H1 ∧ SR X.K H1 A1 S1 ∧ Rp X.K H1 A1 d v ∧ truth S1 d = some b ∧ Q b H1) → Q k H1 := by
      rintro v H1 k rfl ⟨b, A1, S1, d, _, _, r, t, q⟩
      have := bl_inv r
      subst this
      cases t
      exact q
    refine tE2 hE hS h fun x y d e A2 S2 H2 x2 hE2 s2 r1 r2 h2 => ?_
    split at h2
    · rename_i e1
      refine ⟨A2, S2, d, e, true, s2, r1, r2, e1, true, rfl, ?_⟩
      rw [if_pos rfl]
      refine ⟨env, A2, S2, hE2, s2, (RP.bind h2).imp fun u H3 ⟨A3, S3, g, x3, s3, r3, h3⟩ => ?_⟩
      obtain ⟨z, h4, h5⟩ := RP.of h3
      obtain ⟨k, h6, rfl⟩ := Option.map_eq_some_iff.mp h4
      exact ⟨A3, S3, e, g, k, s3, r2.mono x3 s2.noTup, r3, h6, k, rfl, fin rfl (h5.here s3 rp_bl)⟩
    · rename_i e1
      refine ⟨A2, S2, d, e, false, s2, r1, r2, e1, false, rfl, ?_⟩
      rw [if_neg Bool.false_ne_true]
      exact ⟨false, rfl, fin rfl (Out.here h2 s2 rp_bl)⟩
    · exact h2.elim
/-! ### and, or, not, if else -/
theorem r_and {a b : Expr} {rest : List Expr} {a' b' : E} (ha : PE X a (tE X.K fx W a')) (hb : PE X (.BoolOp .And (b :: rest) pos) (tE X.K fx W b')) : PE X (.BoolOp .And (a :: b :: rest) pos) (tE X.K fx W (.and a' b')) :=
  PE.imp (pe_andT ha hb) fun σ H Q ⟨env, A, S, hE, hS, h⟩ => by
    unfold evE at h
    refine ⟨env, A, S, hE, hS, (RP.bind h).imp fun v H1 ⟨A1, S1, d, x1, s1, r1, h1⟩ => ?_⟩
    split at h1
    · rename_i e1
      refine ⟨true, truth_of s1 r1 e1, ?_⟩
      rw [if_pos rfl]
      exact ⟨env, A1, S1, hE.mono x1 hS.noTup, s1, h1⟩
    · rename_i e1
      refine ⟨false, truth_of s1 r1 e1, ?_⟩
      rw [if_neg Bool.false_ne_true]
      exact Out.here h1 s1 r1
    · exact h1.elim
theorem r_or {a b : Expr} {rest : List Expr} {a' b' : E} (ha : PE X a (tE X.K fx W a')) (hb : PE X (.BoolOp .Or (b :: rest) pos) (tE X.K fx W b')) : PE X (.BoolOp .Or (a :: b :: rest) pos) (tE X.K fx W (.or a' b')) :=
  PE.imp (pe_orT ha hb) fun σ H Q ⟨env, A, S, hE, hS, h⟩ => by
    unfold evE at h
    refine ⟨env, A, S, hE, hS, (RP.bind h).imp fun v H1 ⟨A1, S1, d, x1, s1, r1, h1⟩ => ?_⟩
    split at h1
    · rename_i e1
      refine ⟨true, truth_of s1 r1 e1, ?_⟩
      rw [if_pos rfl]
      exact Out.here h1 s1 r1
    · rename_i e1
      refine ⟨false, truth_of s1 r1 e1, ?_⟩
      rw [if_neg Bool.false_ne_true]
      exact ⟨env, A1, S1, hE.mono x1 hS.noTup, s1, h1⟩
    · exact h1.elim
/-- the test of an and | or asks nothing of its whole -/
theorem pw_of {op : BoolOp} {vs : List Expr} {t : TT} (h : PT X (.BoolOp op vs pos) t) : PW X (.BoolOp op vs pos) t := ⟨fun whole pins s σ H Q I q => h.run pins s σ H Q I q⟩
theorem r_andT {a b : Expr} {rest : List Expr} {a' b' : E} (ha : PT X a (tT X.K fx W a')) (hb : PT X (.BoolOp .And (b :: rest) pos) (tT X.K fx W b')) : PT X (.BoolOp .And (a :: b :: rest) pos) (tT X.K fx W (.and a' b')) :=
  PT.imp (pw_and ha (pw_of hb)).pt fun σ H Q ⟨env, A, S, hE, hS, h⟩ => by
    have h : RT X.K W σ A H ((evE fx a' env S).bind fun x S => match truth S x with
      | some b => (fun b (x : D) S => cond b (evE fx b' env S) (R.ok x S)) b x S
      | none => .bad) Q := by
      unfold evE at h
      have e : (fun (x : D) (S : Store) => match truth S x with
          | some true => evE fx b' env S
          | some false => R.ok x S
          | none => .bad) = fun x S => match truth S x with
          | some b => (fun b (x : D) S => cond b (evE fx b' env S) (R.ok x S)) b x S
          | none => .bad := by
        funext x S
        cases truth S x with
        | none => rfl
        | some b => cases b <;> rfl
      rw [← e]
      exact h
    refine ⟨env, A, S, hE, hS, (RT.bindT h).imp fun c H1 ⟨A1, S1, d, x1, s1, t1, h1⟩ => ?_⟩
    cases c with
    | true =>
      rw [if_pos rfl]
      exact ⟨env, A1, S1, hE.mono x1 hS.noTup, s1, h1⟩
    | false =>
      rw [if_neg Bool.false_ne_true]
      obtain ⟨b, h2, h3⟩ := h1
      rw [t1] at h2
      cases h2
      exact h3 A1 H1 (Ext.refl A1 H1) s1
theorem r_orT {a b : Expr} {rest : List Expr} {a' b' : E} (ha : PT X a (tT X.K fx W a')) (hb : PT X (.BoolOp .Or (b :: rest) pos) (tT X.K fx W b')) : PT X (.BoolOp .Or (a :: b :: rest) pos) (tT X.K fx W (.or a' b')) :=
  PT.imp (pw_or ha (pw_of hb)).pt fun σ H Q ⟨env, A, S, hE, hS, h⟩ => by
    have h : RT X.K W σ A H ((evE fx a' env S).bind fun x S => match truth S x with
      | some b => (fun b (x : D) S => cond b (R.ok x S) (evE fx b' env S)) b x S
      | none => .bad) Q := by
      unfold evE at h
      have e : (fun (x : D) (S : Store) => match truth S x with
          | some true => R.ok x S
          | some false => evE fx b' env S
          | none => .bad) = fun x S => match truth S x with
          | some b => (fun b (x : D) S => cond b (R.ok x S) (evE fx b' env S)) b x S
          | none => .bad := by
        funext x S
        cases truth S x with
        | none => rfl
        | some b => cases b <;> rfl
      rw [← e]
      exact h
    refine ⟨env, A, S, hE, hS, (RT.bindT h).imp fun c H1 ⟨A1, S1, d, x1, s1, t1, h1⟩ => ?_⟩
    cases c with
    | true =>
      rw [if_pos rfl]
      obtain ⟨b, h2, h3⟩ := h1
      rw [t1] at h2
      cases h2
      exact h3 A1 H1 (Ext.refl A1 H1) s1
    | false =>
      rw [if_neg Bool.false_ne_true]
      exact ⟨env, A1, S1, hE.mono x1 hS.noTup, s1, h1⟩
theorem pt_one {op : BoolOp} {a : Expr} {t : TT} (h : PT X a t) : PT X (.BoolOp op [a] pos) t := by
  cases op with
  | And => exact (pw_and1 h).pt
  | Or => exact (pw_or1 h).pt
theorem r_not {a : Expr} {a' : E} (ha : PE X a (tE X.K fx W a')) : PE X (.UnaryOp .Not a pos) (tE X.K fx W (.not a')) :=
  PE.imp (pe_notT ha) fun σ H Q ⟨env, A, S, hE, hS, h⟩ => by
    unfold evE at h
    refine ⟨env, A, S, hE, hS, (RP.bind h).imp fun v H1 ⟨A1, S1, d, x1, s1, r1, h1⟩ => ?_⟩
    split at h1
    · rename_i b e1
      exact ⟨b, truth_of s1 r1 e1, Out.here h1 s1 rp_bl⟩
    · exact h1.elim
theorem r_notT {a : Expr} {a' : E} (ha : PT X a (tT X.K fx W a')) : PT X (.UnaryOp .Not a pos) (tT X.K fx W (.not a')) :=
  PT.imp (pt_not ha) fun σ H Q ⟨env, A, S, hE, hS, h⟩ => by
    unfold evE at h
    refine ⟨env, A, S, hE, hS, (RT.bindT (f := fun b _ S => .ok (.bl (!b)) S) h).imp fun c H1 ⟨A1, S1, d, x1, s1, t1, h1⟩ => RT.bl h1 s1⟩
theorem r_ite {c a b : Expr} {c' a' b' : E} (hc : PT X c (tT X.K fx W c')) (ha : PE X a (tE X.K fx W a')) (hb : PE X b (tE X.K fx W b')) : PE X (.IfExp c a b pos) (tE X.K fx W (.ite c' a' b')) :=
  PE.imp (pe_ifExp hc ha hb) fun σ H Q ⟨env, A, S, hE, hS, h⟩ => by
    have h : RP X.K W σ A H ((evE fx c' env S).bind fun x S => match truth S x with
      | some b => (fun b (x : D) S => cond b (evE fx a' env S) (evE fx b' env S)) b x S
      | none => .bad) Q := by
      unfold evE at h
      have e : (fun (x : D) (S : Store) => match truth S x with
          | some true => evE fx a' env S
          | some false => evE fx b' env S
          | none => .bad) = fun x S => match truth S x with
          | some b => (fun b (x : D) S => cond b (evE fx a' env S) (evE fx b' env S)) b x S
          | none => .bad := by
        funext x S
        cases truth S x with
        | none => rfl
        | some b => cases b <;> rfl
      rw [← e]
      exact h
    refine ⟨env, A, S, hE, hS, (RP.bindT h).imp fun k H1 ⟨A1, S1, d, x1, s1, h1⟩ => ?_⟩
    cases k with
    | true =>
      rw [if_pos rfl]
      exact ⟨env, A1, S1, hE.mono x1 hS.noTup, s1, h1⟩
    | false =>
      rw [if_neg Bool.false_ne_true]
      exact ⟨env, A1, S1, hE.mono x1 hS.noTup, s1, h1⟩

/-! ### places, slices -/
theorem r_ix {a b : Expr} {a' b' : E} (ha : PE X a (tE X.K fx W a')) (hb : PE X b (tE X.K fx W b')) (hs : PlainIx b) : PE X (.Subscript a b pos) (tE X.K fx W (.ix a' b')) :=
  PE.imp (pe_ix ix_D ha hb hs) fun σ H Q ⟨env, A, S, hE, hS, h⟩ => by
    unfold evE at h
    refine tE2 hE hS h fun x y d e A2 S2 H2 _ _ s2 r1 r2 h2 => ?_
    obtain ⟨z, h3, h4⟩ := RP.of h2
    exact ⟨A2, S2, d, e, z, s2, r1, r2, h3, h4⟩
/-- a part of a slice, left out or a whole number -/
def RPp (K : PySem.W.Frag) (W : WX) (σ : L2.St) (A : Ads) (H : Hp) (r : R (Option Int)) (Q : Option Int → Hp → Prop) : Prop :=
  match r with
  | .ok o S => ∀ H' A', Ext A H A' H' → SR K H' A' S → Q o H'
  | .exc c S => Exo K W σ A H c S
  | .bad => False
theorem RPp.imp {K : PySem.W.Frag} {σ : L2.St} {A : Ads} {H : Hp} {r : R (Option Int)} {Q Q' : Option Int → Hp → Prop} (h : RPp K W σ A H r Q) (k : ∀ v H', Q v H' → Q' v H') : RPp K W σ A H r Q' := by
  cases r with
  | ok d S => exact fun H2 A2 y s => k _ _ (h H2 A2 y s)
  | exc c S => exact h
  | bad => exact h
theorem RPp.bind {K : PySem.W.Frag} {σ : L2.St} {A : Ads} {H : Hp} {r : R (Option Int)} {f : Option Int → Store → R D} {Q : VK} (h : RP K W σ A H (r.bind f) Q) :
    RPp K W σ A H r fun o H1 => ∃ A1 S1, Ext A H A1 H1 ∧ SR K H1 A1 S1 ∧ RP K W σ A1 H1 (f o S1) Q := by
  cases r with
  | ok d S => exact fun H1 A1 x s => ⟨A1, S, x, s, RP.mono (r := f d S) h x⟩
  | exc c S => exact h
  | bad => exact h
/-- what a slice's part is to give -/
def tO (K : PySem.W.Frag) (fx : Fx) (W : WX) (l' : Es) : TO := fun σ H Q => ∃ env A S, EnvR K H A env σ ∧ SR K H A S ∧ RPp K W σ A H (evPt fx l' env S) Q
theorem po_imp {e : Option Expr} {t t' : TO} (h : PO X e t) (k : ∀ σ H Q, t' σ H Q → t σ H Q) : PO X e t' := ⟨fun pins s σ H Q I q => h.run pins s σ H Q I (k σ H Q q)⟩
theorem r_ptN : PO X none (tO X.K fx W .nil) :=
  po_imp po_none fun σ H Q ⟨env, A, S, hE, hS, h⟩ => by
    unfold evPt at h
    exact h H A (Ext.refl A H) hS
theorem r_ptS {e : Expr} {e' : E} (h : PE X e (tE X.K fx W e')) : PO X (some e) (tO X.K fx W (.cons e' .nil)) :=
  po_imp (po_some h) fun σ H Q ⟨env, A, S, hE, hS, h⟩ => by
    unfold evPt at h
    refine ⟨env, A, S, hE, hS, ?_⟩
    cases r : evE fx e' env S with
    | bad => rw [r] at h; exact h.elim
    | exc c S1 => rw [r] at h; exact h
    | ok u S1 =>
      rw [r] at h
      intro y H2 A2 x2 s2 r2
      cases u <;> first | exact False.elim h | skip
      rename_i j
      exact ⟨j, r2.int, h H2 A2 x2 s2⟩
theorem r_sl {a : Expr} {lo hi : Option Expr} {a' : E} {l' h' : Es} {p2 : Pos} (ha : PE X a (tE X.K fx W a')) (hl : PO X lo (tO X.K fx W l')) (hh : PO X hi (tO X.K fx W h')) :
    PE X (.Subscript a (.Slice lo hi none p2) pos) (tE X.K fx W (.sl a' l' h')) :=
  PE.imp (pe_slice sl_D ha hl hh) fun σ H Q ⟨env, A, S, hE, hS, h⟩ => by
    unfold evE at h
    refine ⟨env, A, S, hE, hS, (RP.bind h).imp fun v H1 ⟨A1, S1, d, x1, s1, r1, h1⟩ => ?_⟩
    have hE1 := hE.mono x1 hS.noTup
    refine ⟨env, A1, S1, hE1, s1, ?_⟩
    have h2 := RPp.bind h1
    refine RPp.imp h2 fun o H2 ⟨A2, S2, x2, s2, h3⟩ => ?_
    have hE2 := hE1.mono x2 s1.noTup
    refine ⟨env, A2, S2, hE2, s2, RPp.imp (RPp.bind h3) fun u H3 ⟨A3, S3, x3, s3, h4⟩ => ?_⟩
    obtain ⟨z, h5, h6⟩ := RP.of h4
    exact ⟨A3, S3, d, z, s3, (r1.mono x2 s1.noTup).mono x3 s2.noTup, h5, h6⟩
end
end Rs
end

section
set_option Elab.async false
set_option linter.all false
set_option maxRecDepth 100000
set_option maxHeartbeats 1000000
set_option autoImplicit false
/-! RsComp: what is walked, targets, tests, comprehensions of any number of clauses. Own work over HandS. -/
namespace Rs
open PySem PySem.Spec PyProof.Rows L2

/-! ### what is walked -/
/-- the walk J gives the data ds, one by one -/
def Yl (K : PySem.W.Frag) (A : Ads) (H : Hp) (ds : List D) (J : L2.It) : Prop :=
  ∀ A' H', Ex A H A' H' → NoTup H' A' →
    (∀ (i : Nat) (d : D), ds[i]? = some d → J.go i H' ∧ ∀ x H'', J.yld i H' x H'' → (H'' = H' ∨ ∃ T o, H' T = none ∧ H'' = upd H' T o) ∧ Rp K H'' A' d x) ∧
    ∀ i : Nat, ds.length ≤ i → i ≤ ds.length → J.stop i H'
def RPi (K : PySem.W.Frag) (W : WX) (σ : L2.St) (A : Ads) (H : Hp) (r : R (List D)) (Q : L2.It → Hp → Prop) : Prop :=
  match r with
  | .ok ds S => ∀ J H' A', Ext A H A' H' → SR K H' A' S → Yl K A' H' ds J → Q J H'
  | .exc c S => Exo K W σ A H c S
  | .bad => False
def tI (K : PySem.W.Frag) (fx : Fx) (W : WX) (it : Rs.It) : TI := fun σ H R => ∃ env A S, EnvR K H A env σ ∧ SR K H A S ∧ RPi K W σ A H (evIt fx it env S) R
section
variable {K : PySem.W.Frag} {W : WX} {σ : L2.St} {A A' : Ads} {H H' : Hp}
theorem RPi.mono {r : R (List D)} {Q : L2.It → Hp → Prop} (h : RPi K W σ A H r Q) (x : Ext A H A' H') : RPi K W σ A' H' r Q := by
  cases r with
  | ok d S => exact fun J H2 A2 y s r => h J H2 A2 (x.trans y) s r
  | exc c S => exact Exo.mono h x
  | bad => exact h
theorem RPi.imp {r : R (List D)} {Q Q' : L2.It → Hp → Prop} (h : RPi K W σ A H r Q) (k : ∀ v H', Q v H' → Q' v H') : RPi K W σ A H r Q' := by
  cases r with
  | ok d S => exact fun J H2 A2 y s r => k _ _ (h J H2 A2 y s r)
  | exc c S => exact h
  | bad => exact h
theorem RP.bindi {r : R D} {f : D → Store → R (List D)} {Q : L2.It → Hp → Prop} (h : RPi K W σ A H (r.bind f) Q) :
    RP K W σ A H r fun v H1 => ∃ A1 S1 d, Ext A H A1 H1 ∧ SR K H1 A1 S1 ∧ Rp K H1 A1 d v ∧ RPi K W σ A1 H1 (f d S1) Q := by
  cases r with
  | ok d S => exact fun v H1 A1 x s r => ⟨A1, S, d, x, s, r, RPi.mono (r := f d S) h x⟩
  | exc c S => exact h
  | bad => exact h
theorem RPs.bindi {r : R (List D)} {f : List D → Store → R (List D)} {Q : L2.It → Hp → Prop} (h : RPi K W σ A H (r.bind f) Q) :
    RPs K W σ A H r fun v H1 => ∃ A1 S1 d, Ext A H A1 H1 ∧ SR K H1 A1 S1 ∧ Rps K H1 A1 d v ∧ RPi K W σ A1 H1 (f d S1) Q := by
  cases r with
  | ok d S => exact fun v H1 A1 x s r => ⟨A1, S, d, x, s, r, RPi.mono (r := f d S) h x⟩
  | exc c S => exact h
  | bad => exact h
theorem RPi.here {ds : List D} {S : Store} {Q : L2.It → Hp → Prop} (h : RPi K W σ A H (.ok ds S) Q) (s : SR K H A S) {J : L2.It} (y : Yl K A H ds J) : Q J H := h J H A (Ext.refl A H) s y
theorem yl_list {S : Store} (s : SR K H A S) {ds : List D} {vs : List V} {a : Addr} (h : H a = some (.lst vs)) (n : ¬ A.live a) (r : Rps K H A ds vs) : Yl K A H ds (Itl K a) := by
  intro A' H' x nt
  have h' := x.ls a vs n h
  have r' := r.monoE x s.noTup
  refine ⟨fun i d e => ?_, fun i hi _ => ⟨vs, SqL.of h', by rw [← r'.length]; exact hi⟩⟩
  obtain ⟨v, e1, r1⟩ := r'.get e
  refine ⟨⟨vs, v, SqL.of h', e1⟩, fun z H'' y => ?_⟩
  obtain ⟨rfl, y⟩ := y
  have := y vs (SqL.of h')
  rw [e1] at this
  cases this
  exact ⟨.inl rfl, r1⟩
theorem yl_tup {S : Store} (s : SR K H A S) {ds : List D} {vs : List V} {a : Addr} (h : SqT K H a vs) (r : Rps K H A ds vs) : Yl K A H ds (Itt K a) := by
  intro A' H' x nt
  have h' := x.sqT s.noTup h
  have r' := r.monoE x s.noTup
  refine ⟨fun i d e => ?_, fun i hi _ => ⟨vs, h', by rw [← r'.length]; exact hi⟩⟩
  obtain ⟨v, e1, r1⟩ := r'.get e
  refine ⟨⟨vs, v, h', e1⟩, fun z H'' y => ?_⟩
  obtain ⟨rfl, y⟩ := y
  have := y vs h'
  rw [e1] at this
  cases this
  exact ⟨.inl rfl, r1⟩
theorem rps_ints2 {K : PySem.W.Frag} {H : Hp} {A : Ads} : ∀ ns : List Int, Rps K H A (ns.map D.int) (ns.map V.int)
  | [] => Rps.nil
  | n :: r => Rps.cons rp_int (rps_ints2 r)
theorem yl_scr {ns : List Int} {a : Addr} (h : (Rd H a (.lst (ns.map V.int)) ∧ ¬ A.live a) ∨ ∀ H', SqL K H' a (ns.map V.int)) : Yl K A H (ns.map D.int) (Itl K a) := by
  intro A' H' x nt
  have h' : SqL K H' a (ns.map V.int) := by
    rcases h with ⟨h, n⟩ | h
    · exact .inl (x.rd a _ n h)
    · exact h H'
  refine ⟨fun i d e => ?_, fun i hi _ => ⟨_, h', by simpa using hi⟩⟩
  obtain ⟨v, e1, r1⟩ := (rps_ints2 (K := K) (H := H') (A := A') ns).get e
  refine ⟨⟨_, v, h', e1⟩, fun z H'' y => ?_⟩
  obtain ⟨rfl, y⟩ := y
  have := y _ h'
  rw [e1] at this
  cases this
  exact ⟨.inl rfl, r1⟩
theorem yl_str {x : Str} : Yl K A H (strD x) (Its x) := by
  intro A' H' _ _
  have hl : (strD x).length = x.cps.size := by unfold strD; simp
  refine ⟨fun i d e => ?_, fun i hi _ => by rw [hl] at hi; exact hi⟩
  have hi : i < x.cps.size := by rw [← hl]; exact (List.getElem?_eq_some_iff.mp e).1
  refine ⟨hi, fun z H'' y => ?_⟩
  obtain ⟨rfl, c, hc, rfl⟩ := y
  refine ⟨.inl rfl, ?_⟩
  unfold strD at e
  rw [List.getElem?_map, Array.getElem?_toList, hc] at e
  cases e
  exact rp_str
theorem yl_range {i j : Int} : Yl K A H (rangeI i j) (Itr i (j - i).toNat) := by
  intro A' H' _ _
  have hl : (rangeI i j).length = (j - i).toNat := by unfold rangeI; simp
  refine ⟨fun k d e => ?_, fun k hk _ => by rw [hl] at hk; exact hk⟩
  have hk : k < (j - i).toNat := by rw [← hl]; exact (List.getElem?_eq_some_iff.mp e).1
  refine ⟨hk, fun z H'' y => ?_⟩
  obtain ⟨rfl, rfl⟩ := y
  refine ⟨.inl rfl, ?_⟩
  unfold rangeI at e
  rw [List.getElem?_map, List.getElem?_range hk] at e
  cases e
  exact rp_int
end

/-! ### walked expressions -/
def iAny (K : PySem.W.Frag) (te : TE) : TI := fun σ H R => te σ H fun v H1 => (∃ a, v = .ref a ∧ (∃ xs, SqL K H1 a xs) ∧ R (Itl K a) H1) ∨ (∃ a, v = .ref a ∧ (∃ xs, SqT K H1 a xs) ∧ R (Itt K a) H1) ∨ ∃ x, v = .str x ∧ R (Its x) H1
section
variable {X : Cx} {fx : Fx} {W : WX} {pos : Pos} {tg : Expr}
theorem PI.imp {e : Expr} {t t' : TI} (h : PI X tg e t) (k : ∀ σ H Q, t' σ H Q → t σ H Q) : PI X tg e t' := ⟨fun pins s σ H Q I q => h.run pins s σ H Q I (k σ H Q q)⟩
theorem pi_any {e : Expr} {te : TE} (he : PE X e te) : PI X tg e (iAny X.K te) := by
  refine ⟨fun pins s σ H R I h => thn (he.run pins s σ H _ I h) fun v s1 ⟨y, H1, I1, r1, q⟩ => ?_⟩
  rcases q with ⟨a, rfl, ⟨xs, hq⟩, q⟩ | ⟨a, rfl, ⟨xs, hq⟩, q⟩ | ⟨x, rfl, q⟩
  · cases r1
    obtain ⟨its, _, p, _⟩ := I1.list hq
    exact wpAny_pyIter_list p.isList (pi_one (tk := s1.toks) I1 _ (turn_list a _) ⟨_, Heap.get?_push_size _ rfl, rfl, rfl⟩ q)
  · cases r1
    obtain ⟨its, _, p, _⟩ := I1.tuple hq
    exact wpAny_pyIter_tuple (show s1.heap.IsTuple a its.toArray from p) (pi_one (tk := s1.toks) I1 _ (turn_tuple a _) ⟨_, Heap.get?_push_size _ rfl, rfl, rfl⟩ q)
  · obtain ⟨t, rfl⟩ := r1
    by_cases ha : x.cps.all (· < 128) = true
    · exact wpAny_pyIter_ascii ha (pi_one (tk := s1.toks) I1 _ (turn_str _ x t "str_ascii_iterator" (.inl rfl)) ⟨_, Heap.get?_push_size _ rfl, rfl, rfl⟩ q)
    · exact wpAny_pyIter_wide (by simpa using ha) (pi_one (tk := s1.toks) I1 _ (turn_str _ x t "str_iterator" (.inr rfl)) ⟨_, Heap.get?_push_size _ rfl, rfl, rfl⟩ q)
theorem r_of {e : Expr} {e' : E} (he : PE X e (tE X.K fx W e')) : PI X tg e (tI X.K fx W (.of e')) :=
  PI.imp (pi_any he) fun σ H Q ⟨env, A, S, hE, hS, h⟩ => by
    unfold evIt at h
    refine ⟨env, A, S, hE, hS, (RP.bindi h).imp fun v H1 ⟨A1, S1, d, x1, s1, r1, h1⟩ => ?_⟩
    split at h1
    · obtain ⟨a, vs, rfl, q, r⟩ := r1.tup
      exact .inr (.inl ⟨a, rfl, ⟨_, q⟩, RPi.here h1 s1 (yl_tup s1 q r)⟩)
    · obtain ⟨a, vs, rfl, q, n, r⟩ := r1.lst
      exact .inl ⟨a, rfl, ⟨_, SqL.of q⟩, RPi.here h1 s1 (yl_list s1 q n r)⟩
    · rw [r1.str]
      exact .inr (.inr ⟨_, rfl, RPi.here h1 s1 yl_str⟩)
    · unfold Rp at r1
      obtain ⟨a, rfl, q⟩ := r1
      refine .inl ⟨a, rfl, ?_, RPi.here h1 s1 (yl_scr q)⟩
      rcases q with ⟨q, _⟩ | q
      · exact ⟨_, .inl q⟩
      · exact ⟨_, q H1⟩
    · exact h1.elim

theorem rps_nil_inv {K : PySem.W.Frag} {H : Hp} {A : Ads} {vs : List V} (h : Rps K H A [] vs) : vs = [] := by unfold Rps at h; exact h
theorem evEs_len {fx : Fx} : ∀ (es : Es) (n : Nat), esLen es = n → ∀ (env : Nv) (S S' : Store) (ds : List D), evEs fx es env S = .ok ds S' → ds.length = n
  | .nil, n, hn, env, S, S', ds, h => by
    unfold evEs at h
    cases h
    exact hn
  | .cons e es, n, hn, env, S, S', ds, h => by
    unfold evEs at h
    cases e1 : evE fx e env S with
    | bad => rw [e1] at h; cases h
    | exc c S1 => rw [e1] at h; cases h
    | ok d S1 =>
      rw [e1] at h
      have h : (evEs fx es env S1).bind (fun ds S => .ok (d :: ds) S) = .ok ds S' := h
      cases e2 : evEs fx es env S1 with
      | bad => rw [e2] at h; cases h
      | exc c S2 => rw [e2] at h; cases h
      | ok ds2 S2 =>
        rw [e2] at h
        cases h
        rw [List.length_cons, evEs_len es _ rfl env S1 _ ds2 e2]
        exact hn
theorem RPs.bindiE {K : PySem.W.Frag} {σ : L2.St} {A : Ads} {H : Hp} {r : R (List D)} {f : List D → Store → R (List D)} {Q : L2.It → Hp → Prop} (h : RPi K W σ A H (r.bind f) Q) :
    RPs K W σ A H r fun v H1 => ∃ A1 S1 d, r = .ok d S1 ∧ Ext A H A1 H1 ∧ SR K H1 A1 S1 ∧ Rps K H1 A1 d v ∧ RPi K W σ A1 H1 (f d S1) Q := by
  cases r with
  | ok d S => exact fun v H1 A1 x s r => ⟨A1, S, d, rfl, x, s, r, RPi.mono (r := f d S) h x⟩
  | exc c S => exact h
  | bad => exact h
theorem r_rng1 {a : Expr} {a' : E} {p : Pos} (hg : Gl X "range") (hm : X.mg "range" = none) (ha : PA X [a] (tEs X.K fx W (.cons a' .nil))) (hs : starEach [a] X.env = [(false, eval a X.env)]) :
    PI X tg (.Call (.Name "range" p) [a] [] pos) (tI X.K fx W (.rng (.cons a' .nil))) :=
  PI.imp (pi_range1 hg hm ha hs) fun σ H Q ⟨env, A, S, hE, hS, h⟩ => by
    unfold evIt at h
    refine ⟨env, A, S, hE, hS, RPs.imp (RPs.bindiE h) fun vs H1 ⟨A1, S1, ds, e1, x1, s1, r1, h1⟩ => ?_⟩
    have hl := evEs_len _ 1 rfl _ _ _ _ e1
    unfold rngD at h1
    split at h1
    · rename_i j
      obtain ⟨v, rfl, r2⟩ := rps1 r1
      have := r2.int
      subst this
      split at h1
      · rename_i hj
        rw [Bool.and_eq_true, decide_eq_true_eq, decide_eq_true_eq] at hj
        have y := yl_range (K := X.K) (A := A1) (H := H1) (i := 0) (j := j)
        rw [Int.sub_zero] at y
        exact ⟨j, rfl, by omega, by omega, RPi.here h1 s1 y⟩
      · exact h1.elim
    · cases hl
    · cases hl
    · exact h1.elim
theorem r_rng2 {a b : Expr} {a' b' : E} {p : Pos} (hg : Gl X "range") (hm : X.mg "range" = none) (ha : PA X [a, b] (tEs X.K fx W (.cons a' (.cons b' .nil)))) (hs : starEach [a, b] X.env = [(false, eval a X.env), (false, eval b X.env)]) (hs2 : starEach [b] X.env = [(false, eval b X.env)]) :
    PI X tg (.Call (.Name "range" p) [a, b] [] pos) (tI X.K fx W (.rng (.cons a' (.cons b' .nil)))) :=
  PI.imp (pi_range2 hg hm ha hs hs2) fun σ H Q ⟨env, A, S, hE, hS, h⟩ => by
    unfold evIt at h
    refine ⟨env, A, S, hE, hS, RPs.imp (RPs.bindiE h) fun vs H1 ⟨A1, S1, ds, e1, x1, s1, r1, h1⟩ => ?_⟩
    have hl := evEs_len _ 2 rfl _ _ _ _ e1
    unfold rngD at h1
    split at h1
    · cases hl
    · rename_i i j
      obtain ⟨v, u, rfl, r2, r3⟩ := rps2 r1
      have := r2.int
      subst this
      have := r3.int
      subst this
      split at h1
      · rename_i hj
        rw [Bool.and_eq_true, Bool.and_eq_true, Bool.and_eq_true, decide_eq_true_eq, decide_eq_true_eq, decide_eq_true_eq, decide_eq_true_eq] at hj
        exact ⟨i, j, rfl, ⟨by omega, by omega, by omega, by omega⟩, RPi.here h1 s1 yl_range⟩
      · exact h1.elim
    · cases hl
    · exact h1.elim
theorem rangeC_get : ∀ (a c : Int) (n i : Nat), (rangeC a c n)[i]? = if i < n then some (.int (a + i * c)) else none
  | a, c, 0, i => by unfold rangeC; simp
  | a, c, n + 1, 0 => by unfold rangeC; simp
  | a, c, n + 1, i + 1 => by
    unfold rangeC
    rw [List.getElem?_cons_succ, rangeC_get (a + c) c n i]
    by_cases h : i < n
    · rw [if_pos h, if_pos (by omega)]
      congr 2
      push_cast
      rw [Int.add_mul]
      omega
    · rw [if_neg h, if_neg (by omega)]
theorem rangeC_len : ∀ (a c : Int) (n : Nat), (rangeC a c n).length = n
  | a, c, 0 => rfl
  | a, c, n + 1 => by unfold rangeC; rw [List.length_cons, rangeC_len (a + c) c n]
theorem yl_rangeC {K : PySem.W.Frag} {A : Ads} {H : Hp} {i c : Int} {n : Nat} : Yl K A H (rangeC i c n) (Itc i c n) := by
  intro A' H' _ _
  refine ⟨fun k d e => ?_, fun k hk _ => by rw [rangeC_len] at hk; exact hk⟩
  rw [rangeC_get] at e
  split at e
  · rename_i hk
    cases e
    refine ⟨hk, fun z H'' y => ?_⟩
    obtain ⟨rfl, rfl⟩ := y
    exact ⟨.inl rfl, rp_int⟩
  · cases e
theorem r_rng3 {a b c : Expr} {a' b' c' : E} {p : Pos} (hg : Gl X "range") (hm : X.mg "range" = none) (ha : PA X [a, b, c] (tEs X.K fx W (.cons a' (.cons b' (.cons c' .nil)))))
    (hs : starEach [a, b, c] X.env = (false, eval a X.env) :: starEach [b, c] X.env) (hpl : (backTo pos (starEach [b, c] X.env)).any (·.1) = false) :
    PI X tg (.Call (.Name "range" p) [a, b, c] [] pos) (tI X.K fx W (.rng (.cons a' (.cons b' (.cons c' .nil))))) :=
  PI.imp (pi_range3 hg hm ha hs hpl) fun σ H Q ⟨env, A, S, hE, hS, h⟩ => by
    unfold evIt at h
    refine ⟨env, A, S, hE, hS, RPs.imp (RPs.bindiE h) fun vs H1 ⟨A1, S1, ds, e1, x1, s1, r1, h1⟩ => ?_⟩
    have hl := evEs_len _ 3 rfl _ _ _ _ e1
    unfold rngD at h1
    split at h1
    · cases hl
    · cases hl
    · rename_i i j c
      obtain ⟨v, vs2, rfl, r2, r3⟩ := r1.inv
      obtain ⟨u, w, rfl, r4, r5⟩ := rps2 r3
      have := r2.int
      subst this
      have := r4.int
      subst this
      have := r5.int
      subst this
      split at h1
      · rename_i hj
        rw [Bool.and_eq_true, Bool.and_eq_true, Bool.and_eq_true, Bool.and_eq_true, decide_eq_true_eq, decide_eq_true_eq, decide_eq_true_eq, decide_eq_true_eq] at hj
        have hc : c = -1 := by simpa using hj.2
        subst hc
        exact ⟨i, j, -1, _, rfl, RgC.neg (by omega) (by omega) (by omega) (by omega), RPi.here h1 s1 yl_rangeC⟩
      · exact h1.elim
    · exact h1.elim
/-! ### enumerate, zip -/
theorem enu_get : ∀ (xs : List D) (n i : Nat), (enuD n xs)[i]? = xs[i]?.map fun d => .tup [.int ((n + i : Nat) : Int), d]
  | [], n, i => by unfold enuD; simp
  | x :: xs, n, 0 => by unfold enuD; simp
  | x :: xs, n, i + 1 => by
    unfold enuD
    rw [List.getElem?_cons_succ, List.getElem?_cons_succ, enu_get xs (n + 1) i]
    have : n + 1 + i = n + (i + 1) := by omega
    rw [this]
theorem enu_len : ∀ (xs : List D) (n : Nat), (enuD n xs).length = xs.length
  | [], n => rfl
  | x :: xs, n => by unfold enuD; rw [List.length_cons, List.length_cons, enu_len xs (n + 1)]
theorem ex_new {A : Ads} {H : Hp} {p : Addr} {o : HO} (hp : H p = none) : Ex A H A (upd H p o) where
  rd := fun a u _ r => by
    have : a ≠ p := fun z => rd_ne r (by rw [z]; exact hp)
    rcases r with r | ⟨o', r⟩
    · exact .inl (by rw [upd_ne this]; exact r)
    · exact .inr ⟨o', by rw [upd_ne this]; exact r⟩
  ls := fun a u _ r => by
    have : a ≠ p := fun z => by rw [z, hp] at r; cases r
    rw [upd_ne this]; exact r
  pre := fun _ _ b h => ⟨b, h⟩
  new := fun _ h => .inl h
theorem yl_enum {K : PySem.W.Frag} {A : Ads} {H : Hp} {S : Store} (s : SR K H A S) {ds : List D} {vs : List V} {a : Addr} (h : H a = some (.lst vs)) (n : ¬ A.live a) (r : Rps K H A ds vs) : Yl K A H (enuD 0 ds) (Ite K a) := by
  intro A' H' x nt
  have h' := x.ls a vs n h
  have r' := r.monoE x s.noTup
  refine ⟨fun i d e => ?_, fun i hi _ => ⟨vs, SqL.of h', by rw [← r'.length]; rw [enu_len] at hi; exact hi⟩⟩
  rw [enu_get] at e
  obtain ⟨d0, e0, rfl⟩ := Option.map_eq_some_iff.mp e
  obtain ⟨v, e1, r1⟩ := r'.get e0
  refine ⟨⟨vs, v, SqL.of h', e1⟩, fun z H'' y => ?_⟩
  obtain ⟨T, w, rfl, hT, rfl, y⟩ := y
  have := y vs (SqL.of h')
  rw [e1] at this
  cases this
  refine ⟨.inr ⟨T, _, hT, rfl⟩, ?_⟩
  have e : (0 + i : Nat) = i := Nat.zero_add i
  rw [e]
  exact rp_tup (SqT.of upd_same) (.cons rp_int (.cons (r1.monoE (ex_new hT) nt) .nil))
theorem zip_get : ∀ (xs ys : List D) (i : Nat) (d : D), (zipD xs ys)[i]? = some d → ∃ a b, xs[i]? = some a ∧ ys[i]? = some b ∧ d = .tup [a, b]
  | [], ys, i, d, h => by unfold zipD at h; simp at h
  | x :: xs, [], i, d, h => by unfold zipD at h; simp at h
  | x :: xs, y :: ys, 0, d, h => by
    unfold zipD at h
    cases h
    exact ⟨x, y, rfl, rfl, rfl⟩
  | x :: xs, y :: ys, i + 1, d, h => by
    unfold zipD at h
    exact zip_get xs ys i d h
theorem zip_len : ∀ (xs ys : List D), (zipD xs ys).length = min xs.length ys.length
  | [], ys => by unfold zipD; simp
  | x :: xs, [] => by unfold zipD; simp
  | x :: xs, y :: ys => by unfold zipD; rw [List.length_cons, List.length_cons, List.length_cons, zip_len xs ys]; omega
theorem yl_zipL {K : PySem.W.Frag} {A : Ads} {H : Hp} {S : Store} (s : SR K H A S) {ds es : List D} {vs us : List V} {a b : Addr} (h : H a = some (.lst vs)) (n : ¬ A.live a) (r : Rps K H A ds vs)
    (h2 : H b = some (.lst us)) (n2 : ¬ A.live b) (r2 : Rps K H A es us) : Yl K A H (zipD ds es) (Itz K a b) := by
  intro A' H' x nt
  have k1 := x.ls a vs n h
  have k2 := x.ls b us n2 h2
  have q1 := r.monoE x s.noTup
  have q2 := r2.monoE x s.noTup
  refine ⟨fun i d e => ?_, fun i hi _ => ⟨vs, us, SqL.of k1, SqL.of k2, ?_⟩⟩
  · obtain ⟨d1, d2, g1, g2, rfl⟩ := zip_get _ _ _ _ e
    obtain ⟨v, e1, w1⟩ := q1.get g1
    obtain ⟨u, e2, w2⟩ := q2.get g2
    refine ⟨⟨vs, us, v, u, SqL.of k1, SqL.of k2, e1, e2⟩, fun z H'' y => ?_⟩
    obtain ⟨T, w, w', rfl, hT, rfl, y1, y2⟩ := y
    have z1 := y1 vs (SqL.of k1)
    rw [e1] at z1
    cases z1
    have z2 := y2 us (SqL.of k2)
    rw [e2] at z2
    cases z2
    exact ⟨.inr ⟨T, _, hT, rfl⟩, rp_tup (SqT.of upd_same) (.cons (w1.monoE (ex_new hT) nt) (.cons (w2.monoE (ex_new hT) nt) .nil))⟩
  · rw [zip_len] at hi
    rw [← q1.length, ← q2.length]
    omega
theorem yl_zipT {K : PySem.W.Frag} {A : Ads} {H : Hp} {S : Store} (s : SR K H A S) {ds es : List D} {vs us : List V} {a b : Addr} (h : SqT K H a vs) (r : Rps K H A ds vs)
    (h2 : SqT K H b us) (r2 : Rps K H A es us) : Yl K A H (zipD ds es) (RZ.ItzT K a b) := by
  intro A' H' x nt
  have k1 := x.sqT s.noTup h
  have k2 := x.sqT s.noTup h2
  have q1 := r.monoE x s.noTup
  have q2 := r2.monoE x s.noTup
  refine ⟨fun i d e => ?_, fun i hi _ => ⟨vs, us, k1, k2, ?_⟩⟩
  · obtain ⟨d1, d2, g1, g2, rfl⟩ := zip_get _ _ _ _ e
    obtain ⟨v, e1, w1⟩ := q1.get g1
    obtain ⟨u, e2, w2⟩ := q2.get g2
    refine ⟨⟨vs, us, v, u, k1, k2, e1, e2⟩, fun z H'' y => ?_⟩
    obtain ⟨T, w, w', rfl, hT, rfl, y1, y2⟩ := y
    have z1 := y1 vs k1
    rw [e1] at z1
    cases z1
    have z2 := y2 us k2
    rw [e2] at z2
    cases z2
    exact ⟨.inr ⟨T, _, hT, rfl⟩, rp_tup (SqT.of upd_same) (.cons (w1.monoE (ex_new hT) nt) (.cons (w2.monoE (ex_new hT) nt) .nil))⟩
  · rw [zip_len] at hi
    rw [← q1.length, ← q2.length]
    omega
theorem r_zip {elts : List Expr} {kk : Nat} {tpos p : Pos} {e e2 : Expr} {a' b' : E} (hg : Gl X "zip") (hm : X.mg "zip" = none) (ha : PA X [e, e2] (tEs X.K fx W (.cons a' (.cons b' .nil))))
    (hs : starEach [e, e2] X.env = (false, eval e X.env) :: starEach [e2] X.env) (hpl : (backTo pos (starEach [e2] X.env)).any (·.1) = false) :
    PI X (.Tuple elts kk tpos) (.Call (.Name "zip" p) [e, e2] [] pos) (tI X.K fx W (.zip a' b')) :=
  PI.imp (RZ.pi_zipA hg hm ha hs hpl) fun σ H Q ⟨env, A, S, hE, hS, h⟩ => by
    unfold evIt at h
    refine ⟨env, A, S, hE, hS, ?_⟩
    unfold evEs
    cases r : evE fx a' env S with
    | bad => rw [r] at h; exact h.elim
    | exc c S1 => rw [r] at h; exact h
    | ok d S1 =>
      rw [r] at h
      have h : RPi X.K W σ A H ((evE fx b' env S1).bind _) Q := h
      show RPs X.K W σ A H ((evEs fx (.cons b' .nil) env S1).bind _) _
      unfold evEs
      cases r2 : evE fx b' env S1 with
      | bad => rw [r2] at h; exact h.elim
      | exc c S2 => rw [r2] at h; exact h
      | ok d2 S2 =>
        rw [r2] at h
        show Outs X.K A H S2 [d, d2] _
        intro vs H1 A1 x1 s1 q1
        obtain ⟨v, u, rfl, w1, w2⟩ := rps2 q1
        cases d <;> first | exact False.elim h | skip
        · cases d2 <;> first | exact False.elim h | skip
          have h := RPi.mono (r := .ok _ S2) h x1
          obtain ⟨a, us, rfl, q, r⟩ := w1.tup
          obtain ⟨b, us2, rfl, q', r'⟩ := w2.tup
          exact ⟨a, b, us, us2, rfl, .inr ⟨q, q', RPi.here h s1 (yl_zipT s1 q r q' r')⟩⟩
        · cases d2 <;> first | exact False.elim h | skip
          have h := RPi.mono (r := .ok _ S2) h x1
          obtain ⟨a, us, rfl, q, n, r⟩ := w1.lst
          obtain ⟨b, us2, rfl, q', n', r'⟩ := w2.lst
          exact ⟨a, b, us, us2, rfl, .inl ⟨SqL.of q, SqL.of q', RPi.here h s1 (yl_zipL s1 q n r q' n' r')⟩⟩
end

/-! ### targets -/
def RG (K : PySem.W.Frag) (W : WX) (σ : L2.St) (A : Ads) (H : Hp) (vs : List Nat) (r : R Nv) (Q : L2.St → Hp → Prop) : Prop :=
  match r with
  | .ok env1 S => ∀ σ' H' A', Ext A H A' H' → SR K H' A' S → EnvR K H' A' env1 σ' → σ'.length = σ.length → (∀ j, j ∉ vs → σ'[j]? = σ[j]?) → Q σ' H'
  | .exc c S => Exo K W σ A H c S
  | .bad => False
def tG (K : PySem.W.Frag) (fx : Fx) (W : WX) (t : Tg) : TG := fun x σ H Q => ∃ env A S d, EnvR K H A env σ ∧ SR K H A S ∧ Rp K H A d x ∧ RG K W σ A H (slT t) (bindT fx t d env S) Q
def tGs (K : PySem.W.Frag) (fx : Fx) (W : WX) (t : Tgs) : TGs := fun xs σ H Q => ∃ env A S ds, EnvR K H A env σ ∧ SR K H A S ∧ Rps K H A ds xs ∧ RG K W σ A H (slTs t) (bindTs fx t ds env S) Q
section
variable {X : Cx} {fx : Fx} {W : WX} {pos : Pos}
theorem PG.imp {e : Expr} {t t' : TG} (h : PG X e t) (k : ∀ x σ H Q, t' x σ H Q → t x σ H Q) : PG X e t' := ⟨fun pins s σ H v u Q I r q => h.run pins s σ H v u Q I r (k v σ H Q q)⟩
theorem PGs.imp {e : List Expr} {t t' : TGs} (h : PGs X e t) (k : ∀ x σ H Q, t' x σ H Q → t x σ H Q) : PGs X e t' := ⟨fun pins s σ H v u Q I r q => h.run pins s σ H v u Q I r (k v σ H Q q)⟩
theorem r_gnm {i : Nat} {x : Str} (hN : X.N.Nodup) (hi : X.N[i]? = some x) (hx : Loc X.env.scope x) (hf : X.fn x = true ∨ X.env.scope.names.lookup x = some .local) : PG X (.Name x pos) (tG X.K fx W (.nm i)) :=
  PG.imp (pg_name hN hi hx hf) fun x σ H Q ⟨env, A, S, d, hE, hS, hd, h⟩ => by
    unfold bindT at h
    refine h (σ.set i (some x)) H A (Ext.refl A H) hS (hE.set i hd) (by simp) fun j hj => ?_
    rw [List.getElem?_set_ne]
    rintro rfl
    exact hj (by unfold slT; exact List.mem_singleton.mpr rfl)
theorem r_gnil : PGs X [] (tGs X.K fx W .nil) :=
  PGs.imp pgs_nil fun xs σ H Q ⟨env, A, S, ds, hE, hS, hd, h⟩ => by
    cases ds with
    | nil =>
      unfold bindTs at h
      exact ⟨rps_nil_inv hd, h σ H A (Ext.refl A H) hS hE rfl fun _ _ => rfl⟩
    | cons d ds => unfold bindTs at h; exact h.elim
theorem r_gcons {e : Expr} {es : List Expr} {t : Tg} {ts : Tgs} (h1 : PG X e (tG X.K fx W t)) (h2 : PGs X es (tGs X.K fx W ts)) (hs : (assignEach (e :: es) X.env).map (·.2) = assign e X.env :: (assignEach es X.env).map (·.2)) :
    PGs X (e :: es) (tGs X.K fx W (.cons t ts)) :=
  PGs.imp (pgs_cons h1 h2 hs) fun xs σ H Q ⟨env, A, S, ds, hE, hS, hd, h⟩ => by
    cases ds with
    | nil => unfold bindTs at h; exact h.elim
    | cons d ds =>
      obtain ⟨v, r, rfl, r1, r2⟩ := hd.inv
      unfold bindTs at h
      refine ⟨v, r, rfl, env, A, S, d, hE, hS, r1, ?_⟩
      cases e1 : bindT fx t d env S with
      | bad => rw [e1] at h; exact h.elim
      | exc c S1 => rw [e1] at h; exact h.elim
      | ok env1 S1 =>
        rw [e1] at h
        intro σ' H' A' x s' hE' hl hk
        refine ⟨env1, A', S1, ds, hE', s', r2.mono x hS.noTup, ?_⟩
        cases e2 : bindTs fx ts ds env1 S1 with
        | bad => simp only [e2] at h; exact h.elim
        | exc c S2 => simp only [e2] at h; exact h.elim
        | ok env2 S2 =>
          simp only [e2] at h
          intro σ2 H2 A2 y s2 hE2 hl2 hk2
          refine h σ2 H2 A2 (x.trans y) s2 hE2 (hl2.trans hl) fun j hj => ?_
          unfold slTs at hj
          rw [hk2 j fun z => hj (List.mem_append_right _ z), hk j fun z => hj (List.mem_append_left _ z)]
theorem r_gtup {es : List Expr} {k : Nat} {ts : Tgs} {n : Nat} (hc : X.calm = true) (h : PGs X es (tGs X.K fx W ts)) (hn : (assignEach es X.env).length = n) (hst : (assignEach es X.env).findIdx? (·.1) = none) (hl : tgsLen ts = n) :
    PG X (.Tuple es k pos) (tG X.K fx W (.tup ts)) :=
  PG.imp (pg_tup (n := n) hc h hn hst) fun x σ H Q ⟨env, A, S, d, hE, hS, hd, h⟩ => by
    unfold bindT at h
    split at h
    · rename_i xs
      split at h
      · rename_i hx
        obtain ⟨a, vs, rfl, q, r⟩ := hd.tup
        refine ⟨a, vs, rfl, q, ?_, env, A, S, xs, hE, hS, r, h⟩
        rw [← r.length, ← hl]
        exact hx
      · exact h.elim
    · exact h.elim

/-! ### a clause's tests -/
def RTs (K : PySem.W.Frag) (W : WX) (σ : L2.St) (A : Ads) (H : Hp) (r : R Bool) (Q : Bool → Hp → Prop) : Prop :=
  match r with
  | .ok b S => ∀ A' H', Ext A H A' H' → SR K H' A' S → Q b H'
  | .exc c S => Exo K W σ A H c S
  | .bad => False
def tTs (K : PySem.W.Frag) (fx : Fx) (W : WX) (c : Es) : TT := fun σ H Q => ∃ env A S, EnvR K H A env σ ∧ SR K H A S ∧ RTs K W σ A H (evTs fx c env S) Q
theorem PTs.imp {e : List Expr} {t t' : TT} (h : PTs X e t) (k : ∀ σ H Q, t' σ H Q → t σ H Q) : PTs X e t' := ⟨fun pins s σ H Q I q => h.run pins s σ H Q I (k σ H Q q)⟩
theorem r_tnil : PTs X [] (tTs X.K fx W .nil) :=
  PTs.imp pts_nil fun σ H Q ⟨env, A, S, hE, hS, h⟩ => by
    unfold evTs at h
    exact h A H (Ext.refl A H) hS
theorem r_tone {c : Expr} {c' : E} (hc : PT X c (tT X.K fx W c')) : PTs X [c] (tTs X.K fx W (.cons c' .nil)) :=
  PTs.imp (pts_one hc) fun σ H Q ⟨env, A, S, hE, hS, h⟩ => by
    unfold evTs at h
    refine ⟨env, A, S, hE, hS, ?_⟩
    cases r : evE fx c' env S with
    | bad => rw [r] at h; exact h.elim
    | exc k S1 => rw [r] at h; exact h
    | ok d S1 =>
      rw [r] at h
      have h : RTs X.K W σ A H (R.of (truth S1 d) S1) Q := h
      cases t : truth S1 d with
      | none => rw [t] at h; exact h.elim
      | some b =>
        rw [t] at h
        exact ⟨b, t, h⟩
end
end Rs
end

section
set_option Elab.async false
set_option linter.all false
set_option maxRecDepth 100000
set_option maxHeartbeats 2000000
set_option autoImplicit false
/-! RsEnum: enumerate of a tuple. Own work; the steps follow the library's for lists. -/
namespace Rs
open PySem PySem.Spec PyProof.Rows L2
open AutoSeq1 (wpAny_loadPart')

abbrev tupIt (l : Addr) : Obj := { cls := .type "tuple_iterator", data := .fields #[.ref l, .int 0 0] }
abbrev enumOf (it : Addr) : Obj := { cls := .type "enumerate", data := .fields #[.none, .bool false, .ref it, rawInt 0, .none, .none] }
theorem meets_enumT (l : Addr) (items : Array Value) (n : Nat) (dct : Option Addr) (sl : Array (Option Value)) :
    Meets (Builtin.«enumerate.__new__» ⟨[.type "enumerate", .ref l], []⟩) (fun _ R s => s.heap.get? l = some { cls := .type "tuple", dict := dct, data := .seq items n, slots := sl } ∧
      R (.ok (.ret (.ref (s.heap.push (tupIt l)).objs.size))) { s with heap := (s.heap.push (tupIt l)).push (enumOf s.heap.objs.size) }) :=
  .of_wp fun prog w A R s h => by
    obtain ⟨hp, g, d, tk, os⟩ := s
    obtain ⟨hl, h⟩ := h
    have hsub := sub_enumerate
    have hT : Heap.IsTuple (Shared.heap ⟨hp, g, d, tk, os⟩) l items := ⟨_, hl, rfl, n, rfl⟩
    wp_walk using wpAny_loadPart' hl
    refine wpAny_stack_any fun st => wpAny_pure ?_
    split
    · rename_i c _ _ _ _ _
      cases (c == Value.type "enumerate") <;>
      · wp_walk using wpAny_loadPart' hl, wpAny_pyIter_tuple hT
        exact ⟨_, rfl, h⟩
    · wp_walk using wpAny_loadPart' hl, wpAny_pyIter_tuple hT
      exact ⟨_, rfl, h⟩
theorem call_enumT {prog : Program} {w : World} {A : Around} {E : Value → Shared → Prop} {s : Shared} {l : Addr} {items : Array Value} {Q : Value → Shared → Prop} (hL : s.heap.IsTuple l items)
    (h : ∀ h', IsEnum h' (s.heap.objs.size + 1) s.heap.objs.size 0 .none → h'.IsTupleIter s.heap.objs.size l 0 → (∀ b o, s.heap.get? b = some o → h'.get? b = some o) → Q (.ref (s.heap.objs.size + 1)) { s with heap := h' }) :
    wpAny (model prog w) A (call (.type "enumerate") [.ref l]) Q E s := by
  obtain ⟨⟨c, dct, dt, sl⟩, hl, hc, n, hd⟩ := hL
  have hc' : c = .type "tuple" := hc
  have hd' : dt = .seq items n := hd
  subst hc' hd'
  refine callType_new F.called_enumerate (by decide) (F.typeCall_enumerate_1 _) (F.newCall_enumerate_1 _) (fun obj => F.args_object_init_2 obj _) F.entry_enumerate_new (meets_enumT l items n dct sl) ⟨hl, ?_⟩
  have hz : (s.heap.push (tupIt l)).objs.size = s.heap.objs.size + 1 := Heap.size_push ..
  show _ ∧ _
  rw [hz]
  have he : IsEnum ((s.heap.push (tupIt l)).push (enumOf s.heap.objs.size)) (s.heap.objs.size + 1) s.heap.objs.size 0 .none := by
    have q := Heap.get?_push_size (s.heap.push (tupIt l)) (o := enumOf s.heap.objs.size) rfl
    rw [hz] at q
    exact q
  exact ⟨⟨_, he, rfl⟩, h _ he ⟨_, Heap.get?_push_of_some _ (Heap.get?_push_size _ rfl), rfl, rfl⟩ fun b o x => Heap.get?_push_of_some _ (Heap.get?_push_of_some _ x)⟩
/-- the tuple at a, each item in a new pair -/
def IteT (K : PySem.W.Frag) (a : Addr) : L2.It :=
  ⟨fun i H => ∃ (xs : List V) (x : V), SqT K H a xs ∧ xs[i]? = some x, fun i H v H' => ∃ T x, v = .ref T ∧ H T = none ∧ H' = upd H T (.tup [.int (i : Nat), x]) ∧ ∀ xs, SqT K H a xs → xs[i]? = some x, fun i H => ∃ xs : List V, SqT K H a xs ∧ xs.length = i⟩
theorem turn_enumT {P : Program} {w : World} {K : PySem.W.Frag} {elts : List Expr} {kk : Nat} {tpos : Pos} (a e it : Addr) :
    Turn P w K (.Tuple elts kk tpos) (IteT K a) [e, it] e (fun i h => (∃ old, IsEnum h e it ((i : Nat) : Int) old) ∧ h.IsTupleIter it a i ∧ e ≠ it) where
  mem := by simp
  obj := fun i h st b hb => by
    obtain ⟨⟨old, he⟩, ⟨o, ho, hc, hd⟩, _⟩ := st
    rcases List.mem_cons.mp hb with z | z
    · rw [z]; exact ⟨_, he, fun v q => nomatch q⟩
    · rw [List.mem_singleton.mp z]; exact ⟨o, ho, fun v q => by rw [hd] at q; cases q⟩
  keep := fun i h h' ⟨⟨old, he⟩, hi, hne⟩ k => ⟨⟨old, k e (by simp) _ he⟩, hi.at fun o q => k it (by simp) o q, hne⟩
  item := by
    intro X hP hw hK hc i pins s σ H E I hf ⟨⟨old, he⟩, hit, hne⟩ ⟨xs, x, hq, hx⟩
    subst hP hw hK
    obtain ⟨its, rv, p, hz⟩ := I.tuple hq
    obtain ⟨u, hu, ru⟩ := rv.get hx
    have hel : e < s.heap.objs.size := Heap.lt_size he
    have hil : it < s.heap.objs.size := by obtain ⟨_, q, _⟩ := hit; exact Heap.lt_size q
    have hai : a ≠ it := fun z => by
      obtain ⟨o1, q1, c1, _⟩ := hit
      obtain ⟨o2, q2, c2, _⟩ := p
      rw [z, q1] at q2
      cases q2
      rw [c1] at c2
      exact absurd c2 (by decide)
    have hh1 : X.A.in1.handled = none := I.ok.hd hc
    have hui : its.toArray[i]? = some u := by simpa using hu
    have hlt : i < its.toArray.size := (Array.getElem?_eq_some_iff.mp hui).1
    have hea : e ∉ [it, a] := fun z => by
      rcases List.mem_cons.mp z with z | z
      · exact hne z
      · have z := List.mem_singleton.mp z
        obtain ⟨o2, q2, c2, _⟩ := p
        rw [← z] at q2
        have he' : s.heap.get? e = some _ := he
        rw [he'] at q2
        cases q2
        exact absurd (Value.type.inj (show Value.type "enumerate" = Value.type "tuple" from c2)) (by decide)
    refine wpAny_pyNext_enum_itemD (Draws.tuple (prog := X.prog) (w := X.w) hh1 it a hai its.toArray) he ⟨hit, p⟩ hlt hne hea fun y h' tk hy ho st' hT hsz hk => ?_
    rw [hui] at hy
    cases hy
    refine ⟨_, rfl, wpAny_letOwnedTupleGo_enum (s := { s with heap := h', toks := tk + 1 }) ho fun h'' he' sb => ?_⟩
    have hT2 : h''.get? s.heap.objs.size = some { cls := .type "tuple", data := .seq #[.int i tk, u] } := (sb.2 _ (Nat.ne_of_gt hel)).trans hT
    have new : ObjOk X.prog X.w (upd H s.heap.objs.size (.tup [.int (i : Nat), x])) h'' s.heap.objs.size (.tup [.int (i : Nat), x]) := ⟨by show 2 ≤ sizeLine; decide, [.int i tk, u], .cons ⟨_, rfl⟩ (.cons ru .nil), ⟨_, hT2, rfl, _, rfl⟩⟩
    have I1 : Inv X pins σ (upd H s.heap.objs.size (.tup [.int (i : Nat), x])) { s with heap := h'', toks := tk + 1 } :=
      I.turnedNew (ch := [e, it]) (fun b ob hb q => (sb.2 b (fun z => hb (by simp [z]))).trans (hk b ob (fun z => hb (by simp [z])) (fun z => hb (by simp [z])) q)) hf (Nat.le_refl _) new
    refine ⟨.ref s.heap.objs.size, _, I1, rfl, ⟨_, x, rfl, I.hok.fresh (Nat.le_refl _), rfl, fun ys hy => by rw [I.tuple_inj hy hq]; exact hx⟩, ⟨⟨u, ?_⟩, st'.1.at fun o q => (sb.2 it (Ne.symm hne)).trans q, hne⟩, fun b hb => ?_⟩
    · have e1 : ((i + 1 : Nat) : Int) = (i : Int) + 1 := by omega
      rw [e1]; exact he'
    · have hb' : b < s.heap.objs.size := (List.mem_cons.mp hb).elim (fun z => by rw [z]; exact hel) fun z => by rw [List.mem_singleton.mp z]; exact hil
      rw [upd_ne (Nat.ne_of_lt hb')]
      exact (hf b hb).1
  done := by
    intro X hP hw hK hc i pins s σ H E I hf ⟨⟨old, he⟩, hit, hne⟩ ⟨xs, hq, hx⟩
    subst hP hw hK
    obtain ⟨its, rv, p, hz⟩ := I.tuple hq
    obtain ⟨f0, f1, f2, f3, f4, f5⟩ := hf it (by simp)
    have hl := rv.length
    have hh1 : X.A.in1.handled = none := I.ok.hd hc
    have hai : a ≠ it := fun z => by
      obtain ⟨o1, q1, c1, _⟩ := hit
      obtain ⟨o2, q2, c2, _⟩ := p
      rw [z, q1] at q2
      cases q2
      rw [c1] at c2
      exact absurd c2 (by decide)
    have hn : its.toArray.size = i := by simp; omega
    have D := Draws.tuple (prog := X.prog) (w := X.w) hh1 it a hai its.toArray
    rw [hn] at D
    exact wpAny_pyNext_enum_endD D he ⟨hit, p⟩ fun h' eb => ⟨rfl, I.turned (t' := s.toks) (fun b o hb q => eb b o hb q) f0 f1 f3 f4 f5⟩
  self := fun A i s Q E st h => let ⟨⟨_, he⟩, _⟩ := st; wpAny_pyIter_enum he h

def iEnumA (K : PySem.W.Frag) (ta : TA) : TI := fun σ H R => ta σ H fun vs H1 => ∃ a xs, vs = [.ref a] ∧ ((SqL K H1 a xs ∧ R (Ite K a) H1) ∨ (SqT K H1 a xs ∧ R (IteT K a) H1))
theorem pi_enumA {X : Cx} {e : Expr} {ta : TA} {p pos tpos : Pos} {elts : List Expr} {kk : Nat} (hg : Gl X "enumerate") (hm : X.mg "enumerate" = none) (ha : PA X [e] ta) (hs : starEach [e] X.env = [(false, eval e X.env)]) :
    PI X (.Tuple elts kk tpos) (.Call (.Name "enumerate" p) [e] [] pos) (iEnumA X.K ta) := by
  refine ⟨fun pins s σ H R I h => ?_⟩
  refine Call_ (ld_blt I hg hm boot_enumerate (PyProof.Rows.callWith_type1 (thn (ha.run pos pins s σ H _ I h) fun us s1 ⟨vs, H1, I1, r1, q1⟩ => ?_) hs rfl))
  obtain ⟨a, xs, rfl, q⟩ := q1
  rw [Vals.ref1 r1]
  have fps : ∀ b ∈ [s1.heap.objs.size + 1, s1.heap.objs.size], FpOk X pins H1 b := fun b hb => by
    have hle : s1.heap.objs.size ≤ b := (List.mem_cons.mp hb).elim (fun z => by rw [z]; exact Nat.le_add_right _ _) fun z => Nat.le_of_eq (List.mem_singleton.mp z).symm
    exact I1.fpOk hle (I1.hok.fresh hle)
  rcases q with ⟨hq, q⟩ | ⟨hq, q⟩
  · obtain ⟨its, rv, p', hz⟩ := I1.list hq
    exact call_enumerate_list p'.isList fun h' he hit hsz hk => wpAny_pyIter_enum he ⟨_, _, _, _, H1, rfl, I1.kept (t' := s1.toks) hk, turn_enum a (s1.heap.objs.size + 1) s1.heap.objs.size, ⟨⟨.none, he⟩, hit, Nat.succ_ne_self _⟩, fps, q⟩
  · obtain ⟨its, rv, p', hz⟩ := I1.tuple hq
    exact call_enumT p' fun h' he hit hk => wpAny_pyIter_enum he ⟨_, _, _, _, H1, rfl, I1.kept (t' := s1.toks) hk, turn_enumT a (s1.heap.objs.size + 1) s1.heap.objs.size, ⟨⟨.none, he⟩, hit, Nat.succ_ne_self _⟩, fps, q⟩
theorem yl_enumT {K : PySem.W.Frag} {A : Ads} {H : Hp} {S : Store} (s : SR K H A S) {ds : List D} {vs : List V} {a : Addr} (h : SqT K H a vs) (r : Rps K H A ds vs) : Yl K A H (enuD 0 ds) (IteT K a) := by
  intro A' H' x nt
  have h' := x.sqT s.noTup h
  have r' := r.monoE x s.noTup
  refine ⟨fun i d e => ?_, fun i hi hi2 => ⟨vs, h', by rw [← r'.length]; rw [enu_len] at hi hi2; omega⟩⟩
  rw [enu_get] at e
  obtain ⟨d0, e0, rfl⟩ := Option.map_eq_some_iff.mp e
  obtain ⟨v, e1, r1⟩ := r'.get e0
  refine ⟨⟨vs, v, h', e1⟩, fun z H'' y => ?_⟩
  obtain ⟨T, w, rfl, hT, rfl, y⟩ := y
  have := y vs h'
  rw [e1] at this
  cases this
  refine ⟨.inr ⟨T, _, hT, rfl⟩, ?_⟩
  have e : (0 + i : Nat) = i := Nat.zero_add i
  rw [e]
  exact rp_tup (SqT.of upd_same) (.cons rp_int (.cons (r1.monoE (ex_new hT) nt) .nil))
theorem r_enuA {X : Cx} {fx : Fx} {W : WX} {pos : Pos} {elts : List Expr} {kk : Nat} {tpos p : Pos} {e : Expr} {e' : E} (hg : Gl X "enumerate") (hm : X.mg "enumerate" = none) (ha : PA X [e] (tEs X.K fx W (.cons e' .nil))) (hs : starEach [e] X.env = [(false, eval e X.env)]) :
    PI X (.Tuple elts kk tpos) (.Call (.Name "enumerate" p) [e] [] pos) (tI X.K fx W (.enu e')) :=
  PI.imp (pi_enumA hg hm ha hs) fun σ H Q ⟨env, A, S, hE, hS, h⟩ => by
    unfold evIt at h
    refine ⟨env, A, S, hE, hS, ?_⟩
    unfold evEs
    cases r : evE fx e' env S with
    | bad => rw [r] at h; exact h.elim
    | exc c S1 => rw [r] at h; exact h
    | ok d S1 =>
      rw [r] at h
      show Outs X.K A H S1 [d] _
      intro vs H1 A1 x1 s1 r1
      obtain ⟨v, rfl, r2⟩ := rps1 r1
      cases d <;> first | exact False.elim h | skip
      · have h := RPi.mono (r := .ok _ S1) h x1
        obtain ⟨a, us, rfl, q, r⟩ := r2.tup
        exact ⟨a, us, rfl, .inr ⟨q, RPi.here h s1 (yl_enumT s1 q r)⟩⟩
      · have h := RPi.mono (r := .ok _ S1) h x1
        obtain ⟨a, us, rfl, q, n, r⟩ := r2.lst
        exact ⟨a, us, rfl, .inl ⟨SqL.of q, RPi.here h s1 (yl_enum s1 q n r)⟩⟩
end Rs
end

section
set_option Elab.async false
set_option linter.all false
set_option maxRecDepth 100000
set_option maxHeartbeats 1000000
set_option autoImplicit false
/-! RsComp2: list comprehensions of any number of clauses. Own work over HandS. -/
namespace Rs
open PySem PySem.Spec PyProof.Rows L2

/-- what a turn does behind its tests: the next clause, or the item -/
def stepAt (elt : Expr) (gens : List Comprehension) (scope : Scope) (pos : Pos) (n : Nat) (acc : Value) (env : Env) (kk : Sem Fin) : Sem Fin :=
  match gens[n]? with
  | some g => do
    let x ← eval g.iter env
    standAt g.iter.pos
    let x ← if g.is_async != 0 then foldedIterable g.iter x else foldedSetIterable g.iter env x
    let _ ← runOwn (.compStart (.ListComp elt gens scope pos) n (← holding [x] (if g.is_async != 0 then asyncIter x else pyIter x)) acc env) env
    kk
  | none => do
    (do let _ ← call (.builtin "list.append") [acc, ← eval elt env])
    kk
theorem compTurn_at {elt : Expr} {gens : List Comprehension} {scope : Scope} {pos : Pos} {k : Nat} {t i : Expr} {ifs : List Expr} (h : gens[k]? = some ⟨t, i, ifs, 0⟩) (it acc : Value) (env : Env) :
    compTurn (.ListComp elt gens scope pos) k it acc env = (do
      standAt i.pos
      match ← pyNext it with
      | none => pure (.done .next)
      | some v =>
        letOwnedTupleGo t it v
        assign t env v
        let mut ok := true
        for c in ifs do
          if ok then ok ← isTrue c env (eval c env)
        if ok then
          stepAt elt gens scope pos (k + 1) acc env (again (.compLoop (.ListComp elt gens scope pos) k it acc env))
        else again (.compLoop (.ListComp elt gens scope pos) k it acc env)) := by
  unfold compTurn stepAt
  cases e : gens[k + 1]? with
  | none => simp only [h, e]; rfl
  | some g => simp only [h, e]; rfl

/-- in a block no exception leaves -/
def W0 : WX := fun _ _ _ _ => False
def bodyOf (fx : Fx) (t : Tg) (c : Es) (f : Nv → Store → R (List D)) (base : Nv) : D → Store → R (List D) := fun d S =>
  (bindT fx t d base S).bind fun env1 S => (evTs fx c env1 S).bind fun b S => match b with
    | true => f env1 S
    | false => .ok [] S
theorem body_inv {fx : Fx} {t : Tg} {c : Es} {f : Nv → Store → R (List D)} {base : Nv} {d : D} {S S1 : Store} {xs : List D} (h : bodyOf fx t c f base d S = .ok xs S1) :
    ∃ env1 Sa b Sb, bindT fx t d base S = .ok env1 Sa ∧ evTs fx c env1 Sa = .ok b Sb ∧ ((b = true ∧ f env1 Sb = .ok xs S1) ∨ (b = false ∧ xs = [] ∧ S1 = Sb)) := by
  unfold bodyOf at h
  cases e1 : bindT fx t d base S with
  | bad => rw [e1] at h; cases h
  | exc c S1 => rw [e1] at h; cases h
  | ok env1 Sa =>
    rw [e1] at h
    have h : ((evTs fx c env1 Sa).bind fun b S => match b with
      | true => f env1 S
      | false => .ok [] S) = R.ok xs S1 := h
    cases e2 : evTs fx c env1 Sa with
    | bad => rw [e2] at h; cases h
    | exc c S1 => rw [e2] at h; cases h
    | ok b Sb =>
      rw [e2] at h
      refine ⟨env1, Sa, b, Sb, rfl, e2, ?_⟩
      cases b with
      | true => exact .inl ⟨rfl, h⟩
      | false => cases h; exact .inr ⟨rfl, rfl, rfl⟩
theorem comp_inv {f : D → Store → R (List D)} {d : D} {ds : List D} {S S2 : Store} {zs : List D} (h : compL f (d :: ds) S = .ok zs S2) : ∃ xs S1 ys, f d S = .ok xs S1 ∧ compL f ds S1 = .ok ys S2 ∧ zs = xs ++ ys := by
  unfold compL at h
  cases e1 : f d S with
  | bad => rw [e1] at h; cases h
  | exc c S1 => rw [e1] at h; cases h
  | ok xs S1 =>
    rw [e1] at h
    have h : (match compL f ds S1 with
      | .ok ys S2 => R.ok (xs ++ ys) S2
      | _ => .bad) = R.ok zs S2 := h
    cases e2 : compL f ds S1 with
    | bad => rw [e2] at h; cases h
    | exc c S1 => rw [e2] at h; cases h
    | ok ys S3 =>
      rw [e2] at h
      cases h
      exact ⟨xs, S1, ys, rfl, e2, rfl⟩

section
variable {B : Cx} {fx : Fx} {Dl : Addr} {elt : Expr} {gens : List Comprehension} {scope : Scope} {pos : Pos}
/-- what stands behind a part of the making -/
def Made (B : Cx) (Dl : Addr) (pins : List (Addr × Obj)) (σ : L2.St) (H : Hp) (A : Ads) (acc : List V) (ys : List D) (S' : Store) (vs : List Nat) (s' : Shared) : Prop :=
  ∃ σ' H' A' us, Inv B pins σ' H' s' ∧ ExtD Dl A H A' H' ∧ SR B.K H' A' S' ∧ H' Dl = some (.lst (acc ++ us)) ∧ Rps B.K H' A' ys us ∧ σ'.length = σ.length ∧ ∀ j, j ∉ vs → σ'[j]? = σ[j]?
/-- level n does what f says -/
def Lv (B : Cx) (Dl : Addr) (elt : Expr) (gens : List Comprehension) (scope : Scope) (pos : Pos) (n : Nat) (vs : List Nat) (f : Nv → Store → R (List D)) : Prop :=
  ∀ (pins : List (Addr × Obj)) (s : Shared) (σ : L2.St) (H : Hp) (env : Nv) (A : Ads) (S : Store) (acc : List V) (ys : List D) (S' : Store), Inv B pins σ H s → EnvR B.K H A env σ → SR B.K H A S → Dl ∈ A.o →
    H Dl = some (.lst acc) → f env S = .ok ys S' → acc.length + ys.length ≤ LIM → ∀ (kk : Sem Fin) (Q : Fin → Shared → Prop), (∀ s', Made B Dl pins σ H A acc ys S' vs s' → wpAny (model B.prog B.w) B.A kk Q (fun _ _ => False) s') →
    wpAny (model B.prog B.w) B.A (stepAt elt gens scope pos n (.ref Dl) B.env kk) Q (fun _ _ => False) s
theorem lim_lt {a b : Nat} (h : a + b ≤ LIM) (hb : 0 < b) : a < sizeLine := by
  have : LIM = 100000 := rfl
  rw [this] at h
  rw [sizeLine_eq]
  omega
theorem lv_emit {n : Nat} {elt' : E} (hn : gens[n]? = none) (hx : B.xe = fun _ _ => False) (he : PE B elt (tE B.K fx W0 elt')) :
    Lv B Dl elt gens scope pos n [] (fun e S => (evE fx elt' e S).bind fun x S => .ok [x] S) := by
  intro pins s σ H env A S acc ys S' I hE hS hD hl hf hz kk Q hk
  replace hf : ((evE fx elt' env S).bind fun x S => .ok [x] S) = .ok ys S' := hf
  unfold stepAt
  rw [hn]
  cases r : evE fx elt' env S with
  | bad => rw [r] at hf; cases hf
  | exc c S1 => rw [r] at hf; cases hf
  | ok d S1 =>
    rw [r] at hf
    cases hf
    have run := he.run pins s σ H (fun v H1 => ∃ A1, Ext A H A1 H1 ∧ SR B.K H1 A1 S' ∧ Rp B.K H1 A1 d v) I ⟨env, A, S, hE, hS, by
      rw [r]
      exact fun v H1 A1 x s1 r1 => ⟨A1, x, s1, r1⟩⟩
    rw [hx] at run
    refine wpAny_bind (wpAny_bind (thnF run fun u s1 ⟨v, H1, I1, rv, A1, x1, s1', r1⟩ => ?_))
    have hD1 : Dl ∈ A1.o := by rw [x1.own]; exact hD
    have hl1 : H1 Dl = some (.lst acc) := by rw [x1.ow Dl hD]; exact hl
    refine wpAny_bind (app_ok (X := B) I1 hl1 (lim_lt hz (by simp)) rv fun s2 I2 => wpAny_pure (hk s2 ?_))
    exact ⟨σ, _, A1, [v], I2, (x1.toD Dl).trans (exD_upd hD1), s1'.upO hD1, upd_same, .cons (r1.monoE (exD_upd hD1).toEx s1'.noTup) .nil, rfl, fun _ _ => rfl⟩
theorem envR_agree {K : PySem.W.Frag} {H : Hp} {A : Ads} {env : Nv} {σ σ' : L2.St} {vs : List Nat} (h : EnvR K H A env σ) (hl : σ'.length = σ.length) (hk : ∀ j, j ∉ vs → σ'[j]? = σ[j]?) (hn : ∀ j, j ∈ vs → ∀ d, env[j]? ≠ some (some d)) : EnvR K H A env σ' :=
  ⟨by rw [hl]; exact h.1, fun i d e => by
    have : i ∉ vs := fun z => hn i z d e
    obtain ⟨v, e1, r⟩ := h.2 i d e
    exact ⟨v, by rw [hk i this]; exact e1, r⟩⟩
/-- a clause's loop -/
theorem loop_ok {k : Nat} {t i : Expr} {ifs : List Expr} {t' : Tg} {c' : Es} {vs' : List Nat} {f' : Nv → Store → R (List D)} (hk : gens[k]? = some ⟨t, i, ifs, 0⟩) (hx : B.xe = fun _ _ => False) (hc : B.calm = true)
    (hg : PG B t (tG B.K fx W0 t')) (ht : PTs B ifs (tTs B.K fx W0 c')) (hL : Lv B Dl elt gens scope pos (k + 1) vs' f')
    (pins : List (Addr × Obj)) (s : Shared) (σ : L2.St) (H : Hp) (env : Nv) (A : Ads) (S : Store) (items : List D) (acc : List V) (ys : List D) (S' : Store) (J : L2.It) (it : Addr) (fp : List Addr) (tn : Nat → Heap → Prop)
    (I : Inv B pins σ H s) (hE : EnvR B.K H A env σ) (hw : ∀ j, j ∈ slT t' ++ vs' → ∀ d, env[j]? ≠ some (some d)) (hS : SR B.K H A S) (hD : Dl ∈ A.o) (hl : H Dl = some (.lst acc)) (hy : Yl B.K A H items J)
    (T : Turn B.prog B.w B.K t J fp it tn) (st : tn 0 s.heap) (hf : ∀ b ∈ fp, FpOk B pins H b) (hcomp : compL (bodyOf fx t' c' f' env) items S = .ok ys S') (hz : acc.length + ys.length ≤ LIM) :
    codeAny (model B.prog B.w) B.A (.compLoop (.ListComp elt gens scope pos) k (.ref it) (.ref Dl) B.env) (fun r s' => r = .ok .next ∧ Made B Dl pins σ H A acc ys S' (slT t' ++ vs') s') s := by
  have stat : ∀ {H' : Hp}, (∀ b ∈ fp, H' b = none) → ∀ b ∈ fp, FpOk B pins H' b := fun hn b hb => ⟨hn b hb, (hf b hb).2⟩
  refine codeAny_loop rfl (fun n s' => ∃ (j : Nat) (σi : L2.St) (Hi : Hp) (Ai : Ads) (Si : Store) (us : List V) (ys1 ys2 : List D), n = items.length - j ∧ j ≤ items.length ∧ Inv B pins σi Hi s' ∧ ExtD Dl A H Ai Hi ∧ SR B.K Hi Ai Si ∧ Hi Dl = some (.lst (acc ++ us)) ∧
    Rps B.K Hi Ai ys1 us ∧ σi.length = σ.length ∧ (∀ j, j ∉ slT t' ++ vs' → σi[j]? = σ[j]?) ∧ tn j s'.heap ∧ (∀ b ∈ fp, Hi b = none) ∧ compL (bodyOf fx t' c' f' env) (items.drop j) Si = .ok ys2 S' ∧ ys = ys1 ++ ys2) ?_ items.length
    ⟨0, σ, H, A, S, [], [], ys, rfl, Nat.zero_le _, I, ExtD.refl Dl A H, hS, by rw [List.append_nil]; exact hl, .nil, rfl, fun _ _ => rfl, st, fun b hb => (hf b hb).1, hcomp, rfl⟩
  rintro n s1 ⟨j, σi, Hi, Ai, Si, us, ys1, ys2, hn, hj, I1, x1, sr1, hl1, r1, len1, ag1, st1, fr1, hc1, hys⟩
  show wpAny _ B.A ((compTurn (.ListComp elt gens scope pos) k (.ref it) (.ref Dl) B.env).onRaise (fun x => do noteFrame x B.env; theTreesLotGoes x)) _ _ s1
  refine wpAny_noted ?_
  rw [compTurn_at hk]
  refine wpAny_bind (wpAny_standAt (wpAny_bind ?_))
  have y1 := hy Ai Hi x1.toEx sr1.noTup
  by_cases hlt : j < items.length
  · -- a turn
    have hdrop : items.drop j = items[j] :: items.drop (j + 1) := List.drop_eq_getElem_cons hlt
    rw [hdrop] at hc1
    obtain ⟨xs, Sx, ys3, hb, hc2, hys2⟩ := comp_inv hc1
    obtain ⟨env1, Sa, b, Sb, e1, e2, e3⟩ := body_inv hb
    obtain ⟨go, yld⟩ := y1.1 j items[j] (List.getElem?_eq_getElem hlt)
    refine thnF (T.item B rfl rfl rfl hc j pins s1 σi Hi (fun _ _ => False) I1 (stat fr1) st1 go) fun r s2 ⟨u, hr, h2⟩ => ?_
    subst hr
    refine wpAny_bind (thnF h2 fun _ s3 ⟨x, H3, I3, r3, y3, st3, n3⟩ => ?_)
    obtain ⟨hH3, rd3⟩ := yld x H3 y3
    have x3 : Ext Ai Hi Ai H3 ∧ SR B.K H3 Ai Si ∧ H3 Dl = Hi Dl := by
      rcases hH3 with rfl | ⟨T', o, hT, rfl⟩
      · exact ⟨Ext.refl _ _, sr1, rfl⟩
      · exact ⟨sr1.extNew hT, sr1.new hT, upd_ne fun z => by rw [z, hT] at hl1; cases hl1⟩
    obtain ⟨x3, sr3, hD3⟩ := x3
    have I3' := I3.pinned (stat n3) (T.obj _ _ st3)
    have hEi : EnvR B.K H3 Ai env σi := ((envR_agree (hE.monoE x1.toEx hS.noTup) len1 ag1 hw)).mono x3 sr1.noTup
    have rg := hg.run (pins ++ pinsAt fp s3.heap) s3 σi H3 x u (fun σ' H' => ∃ A', Ext Ai H3 A' H' ∧ SR B.K H' A' Sa ∧ EnvR B.K H' A' env1 σ' ∧ σ'.length = σi.length ∧ ∀ j, j ∉ slT t' → σ'[j]? = σi[j]?) I3' r3
      ⟨env, Ai, Si, items[j], hEi, sr3, rd3, by rw [e1]; exact fun σ' H' A' y s' hE' hl' ha' => ⟨A', y, s', hE', hl', ha'⟩⟩
    rw [hx] at rg
    refine wpAny_bind (thnF rg fun _ s4 ⟨σ4, H4, I4, A4, x4, sr4, hE4, len4, ag4⟩ => ?_)
    have rt := ht.run (pins ++ pinsAt fp s3.heap) s4 σ4 H4 (fun b' H' => b' = b ∧ ∃ A', Ext A4 H4 A' H' ∧ SR B.K H' A' Sb) I4 ⟨env1, A4, Sa, hE4, sr4, by rw [e2]; exact fun A' H' y s' => ⟨rfl, A', y, s'⟩⟩
    rw [hx] at rt
    refine wpAny_bind (thnF rt fun b' s5 ⟨H5, I5, hb', A5, x5, sr5⟩ => ?_)
    subst hb'
    have xA : ExtD Dl A H A5 H5 := ((x1.trans (x3.toD Dl)).trans (x4.toD Dl)).trans (x5.toD Dl)
    have hD1 : Dl ∈ Ai.o := by rw [x1.own]; exact hD
    have hD4 : Dl ∈ A4.o := by rw [x4.own]; exact hD1
    have hD5 : Dl ∈ A5.o := by rw [x5.own]; exact hD4
    have hl5 : H5 Dl = some (.lst (acc ++ us)) := by rw [x5.ow Dl hD4, x4.ow Dl hD1, hD3]; exact hl1
    have r5 : Rps B.K H5 A5 ys1 us := ((r1.mono x3 sr1.noTup).mono x4 sr3.noTup).mono x5 sr4.noTup
    have lenus : us.length = ys1.length := r1.length.symm
    have ag5 : ∀ j, j ∉ slT t' ++ vs' → σ4[j]? = σ[j]? := fun j hj => by
      rw [ag4 j fun z => hj (List.mem_append_left _ z), ag1 j hj]
    -- the turn's end
    have fin : ∀ {s' : Shared} {σ' : L2.St} {H' : Hp} {A' : Ads} {us2 : List V}, Inv B (pins ++ pinsAt fp s3.heap) σ' H' s' → ExtD Dl A H A' H' → SR B.K H' A' Sx → H' Dl = some (.lst (acc ++ (us ++ us2))) → Rps B.K H' A' (ys1 ++ xs) (us ++ us2) →
        σ'.length = σ.length → (∀ j, j ∉ slT t' ++ vs' → σ'[j]? = σ[j]?) → ∃ m, m < n ∧ ∃ (j : Nat) (σi : L2.St) (Hi : Hp) (Ai : Ads) (Si : Store) (us : List V) (ys1 ys2 : List D), m = items.length - j ∧ j ≤ items.length ∧ Inv B pins σi Hi s' ∧ ExtD Dl A H Ai Hi ∧ SR B.K Hi Ai Si ∧ Hi Dl = some (.lst (acc ++ us)) ∧
          Rps B.K Hi Ai ys1 us ∧ σi.length = σ.length ∧ (∀ j, j ∉ slT t' ++ vs' → σi[j]? = σ[j]?) ∧ tn j s'.heap ∧ (∀ b ∈ fp, Hi b = none) ∧ compL (bodyOf fx t' c' f' env) (items.drop j) Si = .ok ys2 S' ∧ ys = ys1 ++ ys2 := by
      intro s' σ' H' A' us2 I' x' sr' hl' r' len' ag'
      have pin' : ∀ b ∈ fp, ∀ o, s3.heap.get? b = some o → s'.heap.get? b = some o ∧ H' b = none := fun b hb o e =>
        let z := I'.pin (b, o) (List.mem_append_right _ (List.mem_append_right _ (mem_pinsAt hb e)))
        ⟨z.1, z.2.1⟩
      refine ⟨items.length - (j + 1), by omega, j + 1, σ', H', A', Sx, us ++ us2, ys1 ++ xs, ys3, rfl, hlt, I'.unpinned, x', sr', hl', r', len', ag', T.keep _ _ _ st3 fun b hb o e => (pin' b hb o e).1, fun b hb => ?_, hc2, ?_⟩
      · obtain ⟨o, e, _⟩ := T.obj _ _ st3 b hb
        exact (pin' b hb o e).2
      · rw [hys, hys2, List.append_assoc]
    rcases e3 with ⟨hb, e3⟩ | ⟨hb, hxs, hSx⟩
    · subst hb
      have hz' : (acc ++ us).length + xs.length ≤ LIM := by
        rw [hys, hys2] at hz
        simp only [List.length_append] at hz ⊢
        omega
      show wpAny (model B.prog B.w) B.A (stepAt elt gens scope pos (k + 1) (.ref Dl) B.env (again (.compLoop (.ListComp elt gens scope pos) k (.ref it) (.ref Dl) B.env))) _ _ s5
      refine thnF (hL _ s5 σ4 H5 env1 A5 Sb (acc ++ us) xs Sx I5 (hE4.mono x5 sr4.noTup) sr5 hD5 hl5 e3 hz' _ _ fun s6 ⟨σ6, H6, A6, us2, I6, x6, sr6, hl6, r6, len6, ag6⟩ => ?_) fun _ _ h => h
      refine wpAny_pure ⟨rfl, fin (us2 := us2) I6 (xA.trans x6) sr6 (by rw [← List.append_assoc]; exact hl6) ((r5.monoE x6.toEx sr5.noTup).append r6) (len6.trans (len4.trans len1)) fun j hj => ?_⟩
      rw [ag6 j fun z => hj (List.mem_append_right _ z), ag5 j hj]
    · subst hb hxs hSx
      show wpAny (model B.prog B.w) B.A (again (.compLoop (.ListComp elt gens scope pos) k (.ref it) (.ref Dl) B.env)) _ _ s5
      refine wpAny_pure ⟨rfl, fin (us2 := []) I5 xA sr5 (by rw [List.append_nil]; exact hl5) (by rw [List.append_nil, List.append_nil]; exact r5) (len4.trans len1) ag5⟩
  · -- the end
    have hje : j = items.length := by omega
    subst hje
    rw [List.drop_length] at hc1
    unfold compL at hc1
    cases hc1
    refine thnF (T.done B rfl rfl rfl hc _ pins s1 σi Hi (fun _ _ => False) I1 (stat fr1) st1 (y1.2 _ (Nat.le_refl _) (Nat.le_refl _))) fun r s2 ⟨hr, I2⟩ => ?_
    subst hr
    refine wpAny_pure ⟨rfl, σi, Hi, Ai, us, I2, x1, sr1, hl1, ?_, len1, ag1⟩
    rw [hys, List.append_nil]
    exact r1
theorem wipeE_some {env : Nv} {i : Nat} {d : D} : ∀ {vs : List Nat}, (wipeE env vs)[i]? = some (some d) → env[i]? = some (some d) ∧ i ∉ vs
  | [], h => ⟨h, by simp⟩
  | v :: vs, h => by
    unfold wipeE at h
    by_cases hi : v = i
    · subst hi
      rw [List.getElem?_set] at h
      simp only [if_true] at h
      split at h <;> cases h
    · rw [List.getElem?_set_ne hi] at h
      obtain ⟨h1, h2⟩ := wipeE_some h
      exact ⟨h1, by simp only [List.mem_cons, not_or]; exact ⟨fun e => hi e.symm, h2⟩⟩
theorem wipeE_len (env : Nv) : ∀ vs : List Nat, (wipeE env vs).length = env.length
  | [] => rfl
  | v :: vs => by unfold wipeE; rw [List.length_set, wipeE_len env vs]
/-- a clause's start -/
theorem start_ok {k : Nat} {t i : Expr} {ifs : List Expr} {it acc : Value} {env : Env} {s : Shared} {R : PySem.Result → Shared → Prop} {P : Program} {w : World} {A : Around} (hk : gens[k]? = some ⟨t, i, ifs, 0⟩)
    (h0 : codeAny (model P w) A (.compLoop (.ListComp elt gens scope pos) k it acc env) R s)
    (h : wpAny (model P w) A (pyIter it) (fun it' s' => codeAny (model P w) A (.compLoop (.ListComp elt gens scope pos) k it' acc env) R s') (notedBy (model P w) A env fun x s' => R (.error x) s') s) :
    codeAny (model P w) A (.compStart (.ListComp elt gens scope pos) k it acc env) R s := by
  have hk' : (clausesOf (.ListComp elt gens scope pos))[k]? = some ⟨t, i, ifs, 0⟩ := hk
  refine codeAny_of_tree ?_
  show wpAny _ _ ((compStart (.ListComp elt gens scope pos) k it acc env).onRaise (fun x => do noteFrame x env; standAt theWindowsPlace)) _ _ s
  refine wpAny_notedAt ?_
  unfold compStart
  rw [hk']
  show wpAny _ _ (ask >>= _) _ _ s
  refine wpAny_bind (wpAny_askSetting (wpAny_ite ?_))
  split
  · first
      | exact wpAny_bind (wpAny_pure (wpAny_pure ⟨rfl, h0⟩))
      | exact wpAny_pure ⟨rfl, h0⟩
  · refine wpAny_bind (wpAny_rule ?_)
    first
      | exact wpAny_bind (wpAny_standAt (wpAny_bind (wpAny_mono h (fun it' s' h' => wpAny_pure ⟨rfl, h'⟩) fun _ _ x => x)))
      | (show wpAny _ _ (standAt i.pos >>= _) _ _ s; exact wpAny_bind (wpAny_standAt (wpAny_bind (wpAny_mono h (fun it' s' h' => wpAny_pure ⟨rfl, h'⟩) fun _ _ x => x))))
/-- a clause, from the walk on -/
theorem lv_mid {k : Nat} {t i : Expr} {ifs : List Expr} {t' : Tg} {it' : Rs.It} {c' : Es} {g' : Gs} {f' : Nv → Store → R (List D)} (hk : gens[k]? = some ⟨t, i, ifs, 0⟩) (hx : B.xe = fun _ _ => False) (hc : B.calm = true)
    (hi : PI B t i (tI B.K fx W0 it')) (hg : PG B t (tG B.K fx W0 t')) (ht : PTs B ifs (tTs B.K fx W0 c')) (hs : ∀ x, foldedSetIterable i B.env x = pure x) (hL : Lv B Dl elt gens scope pos (k + 1) (slG g') (evGs fx g' f')) :
    Lv B Dl elt gens scope pos k (slG (.cons t' it' c' g')) (evGs fx (.cons t' it' c' g') f') := by
  intro pins s σ H env A S acc ys S' I hE hS hD hl hf hz kk Q hkk
  unfold evGs at hf
  cases r : evIt fx it' env S with
  | bad => rw [r] at hf; cases hf
  | exc c S1 => rw [r] at hf; cases hf
  | ok items S1 =>
    rw [r] at hf
    replace hf : compL (bodyOf fx t' c' (evGs fx g' f') (wipeE env (slT t' ++ slG g'))) items S1 = .ok ys S' := hf
    unfold stepAt
    rw [hk]
    have run := hi.run pins s σ H (fun J H1 => ∃ A1, Ext A H A1 H1 ∧ SR B.K H1 A1 S1 ∧ Yl B.K A1 H1 items J) I ⟨env, A, S, hE, hS, by rw [r]; exact fun J H1 A1 x s1 y => ⟨A1, x, s1, y⟩⟩
    rw [hx] at run
    refine wpAny_bind (thnF run fun xv s1 hx1 => wpAny_bind (wpAny_standAt ?_))
    show wpAny _ _ (foldedSetIterable i B.env xv >>= _) _ _ s1
    refine wpAny_bind (wpAny_of_eq (hs xv) (wpAny_bind (wpAny_holding (thnF hx1 fun itv s2 h2 => ?_))))
    obtain ⟨it, fp, tn, J, H2, e, I2, T, st2, f2, A2, x2, sr2, y2⟩ := h2
    subst e
    have hE2 : EnvR B.K H2 A2 (wipeE env (slT t' ++ slG g')) σ := (hE.mono x2 hS.noTup).less (wipeE_len _ _) fun i d q => (wipeE_some q).1
    have loop := loop_ok (f' := evGs fx g' f') hk hx hc hg ht hL pins s2 σ H2 (wipeE env (slT t' ++ slG g')) A2 S1 items acc ys S' J it fp tn I2 hE2 (fun j hj d q => (wipeE_some q).2 hj) sr2 (by rw [x2.own]; exact hD) (by rw [x2.ow Dl hD]; exact hl) y2 T st2 f2 hf hz
    refine wpAny_bind (wpAny_runOwn ?_)
    rw [Around.mark_none]
    refine codeAny_mono (start_ok hk loop (T.self B.A 0 _ _ _ st2 loop)) fun r s' hr => ?_
    obtain ⟨rfl, σ', H', A', us, I', x', sr', hl', r', len', ag'⟩ := hr
    first
      | exact hkk s' ⟨σ', H', A', us, I', (x2.toD Dl).trans x', sr', hl', r', len', ag'⟩
      | exact wpAny_pure (hkk s' ⟨σ', H', A', us, I', (x2.toD Dl).trans x', sr', hl', r', len', ag'⟩)
      | exact wpAny_bind (wpAny_pure (hkk s' ⟨σ', H', A', us, I', (x2.toD Dl).trans x', sr', hl', r', len', ag'⟩))
/-- no further clause -/
theorem lv_last {k : Nat} {elt' : E} (hn : gens[k]? = none) (hx : B.xe = fun _ _ => False) (he : PE B elt (tE B.K fx W0 elt')) : Lv B Dl elt gens scope pos k (slG .nil) (evGs fx .nil (fun e S => (evE fx elt' e S).bind fun x S => .ok [x] S)) := by
  intro pins s σ H env A S acc ys S' I hE hS hD hl hf hz kk Q hkk
  unfold evGs at hf
  exact lv_emit hn hx he pins s σ H env A S acc ys S' I hE hS hD hl hf hz kk Q hkk
end

/-! ### a list that is new -/
/-- the list p is not there yet -/
def rmv (H : Hp) (p : Addr) : Hp := fun b => if b = p then none else H b
theorem rmv_ne {H : Hp} {p a : Addr} (h : a ≠ p) : rmv H p a = H a := if_neg h
theorem rmv_same {H : Hp} {p : Addr} : rmv H p p = none := if_pos rfl
theorem upd_rmv {H : Hp} {p : Addr} {o : HO} (h : H p = some o) : upd (rmv H p) p o = H := by
  funext b
  by_cases e : b = p
  · subst e; rw [upd_same, h]
  · rw [upd_ne e, rmv_ne e]
section
variable {K : PySem.W.Frag} {A A1 : Ads} {H H1 : Hp} {S S1 : Store} {p : Addr} {vs : List V}
theorem ex_pop {vs1 : List V} (s1 : SR K H1 A1 S1) (ho : p ∈ A1.o) : Ex A1 H1 A1.pop (rmv H1 p) where
  rd := fun a u n r => by
    have ne : a ≠ p := fun z => n (.inr (by rw [z]; exact ho))
    rcases r with r | ⟨o', r⟩
    · exact .inl (by rw [rmv_ne ne]; exact r)
    · exact .inr ⟨o', by rw [rmv_ne ne]; exact r⟩
  ls := fun a u n r => by
    have ne : a ≠ p := fun z => n (.inr (by rw [z]; exact ho))
    rw [rmv_ne ne]; exact r
  pre := fun _ _ b h => ⟨b, h⟩
  new := fun a h => by
    rcases h with h | h
    · exact .inl (.inl h)
    · exact .inl (.inr (List.mem_of_mem_tail h))
theorem made_out {us : List V} {ys : List D} (s0 : SR K H A S) (hp : H p = none) (x : ExtD p (A.push p) (upd H p (.lst vs)) A1 H1) (s1 : SR K H1 A1 S1) (r : Rps K H1 A1 ys us) :
    Ext A H A1.pop (rmv H1 p) ∧ SR K (rmv H1 p) A1.pop S1 ∧ Rps K (rmv H1 p) A1.pop ys us := by
  have ho : A1.o = p :: A.o := x.own
  have hp1 : p ∈ A1.o := by rw [ho]; exact List.mem_cons_self
  have e := ex_pop (vs1 := []) s1 hp1
  have pA : p ∉ A.o := fun z => s0.live (.inr z) hp
  have htl : A1.pop.o = A.o := by show A1.o.tail = _; rw [ho]; rfl
  refine ⟨⟨⟨fun a u n r => ?_, fun a u n r => ?_, fun k a b h => x.pre k a b h, fun a h => ?_⟩, htl, fun a h => ?_⟩, ⟨s1.len, s1.one, fun k c a b e1 e2 => ?_, fun a ha => ?_⟩, r.monoE e s1.noTup⟩
  · have ne : a ≠ p := fun z => rd_ne r (by rw [z]; exact hp)
    have r' : Rd H1 a u := x.rd a u (fun z => (live_push.mp z).elim n ne) (by
      rcases r with r | ⟨o', r⟩
      · exact .inl (by rw [upd_ne ne]; exact r)
      · exact .inr ⟨o', by rw [upd_ne ne]; exact r⟩)
    rcases r' with r | ⟨o', r⟩
    · exact .inl (by rw [rmv_ne ne]; exact r)
    · exact .inr ⟨o', by rw [rmv_ne ne]; exact r⟩
  · have ne : a ≠ p := fun z => by rw [z, hp] at r; cases r
    rw [rmv_ne ne]
    exact x.ls a u (fun z => (live_push.mp z).elim n ne) (by rw [upd_ne ne]; exact r)
  · by_cases ne : a = p
    · exact .inr (by rw [ne]; exact hp)
    · have h1 : A1.live a := by
        rcases h with h | h
        · exact .inl h
        · exact .inr (List.mem_of_mem_tail h)
      rcases x.new a h1 with q | q
      · exact (live_push.mp q).elim .inl fun z => absurd z ne
      · rw [upd_ne ne] at q
        exact .inr q
  · have ne : a ≠ p := fun z => pA (by rw [← z]; exact h)
    rw [rmv_ne ne, x.ow a (List.mem_cons_of_mem _ h) ne, upd_ne ne]
  · obtain ⟨h1, h2⟩ := s1.at_ k c a b e1 e2
    refine ⟨h1, ?_⟩
    cases hd : isDead c with
    | true => cases c <;> first | trivial | cases hd
    | false =>
      rw [hd] at h1
      subst h1
      have ne : a ≠ p := fun z => (s1.mak p hp1).2 (by rw [← z]; exact List.mem_of_getElem? e2)
      exact h2.monoE e s1.noTup (rmv_ne ne)
  · rw [htl] at ha
    have ne : a ≠ p := fun z => pA (by rw [← z]; exact ha)
    rw [rmv_ne ne]
    exact s1.mak a (by rw [ho]; exact List.mem_cons_of_mem _ ha)
end
/-- a new list comes -/
def RF (K : PySem.W.Frag) (W : WX) (σ : L2.St) (A : Ads) (H : Hp) (r : R D) (Q : VK) : Prop :=
  match r with
  | .ok (.lst ds) S => ∀ H' A' vs p, Ext A H A' H' → SR K H' A' S → Rps K H' A' ds vs → H' p = none → Q (.ref p) (upd H' p (.lst vs))
  | .ok _ _ => False
  | .exc c S => Exo K W σ A H c S
  | .bad => False
def tFr (K : PySem.W.Frag) (fx : Fx) (W : WX) (e : E) : TE := fun σ H Q => ∃ env A S, EnvR K H A env σ ∧ SR K H A S ∧ RF K W σ A H (evE fx e env S) Q
end Rs
end

section
set_option Elab.async false
set_option linter.all false
set_option maxRecDepth 100000
set_option maxHeartbeats 1000000
set_option autoImplicit false
/-! RsLc: the list comprehension as an expression and stored in a name. Own work over HandS. -/
namespace Rs
open PySem PySem.Spec PyProof.Rows L2
section
variable {X : Cx} {fx : Fx} {W : WX} {elt tg iter : Expr} {ifs : List Expr} {gs : List Comprehension} {scope : Scope} {own : List (Str × Nat)} {pos pos' : Pos} {t' : Tg} {it' : Rs.It} {c' : Es} {g' : Gs} {elt' : E}
abbrev allG (tg iter : Expr) (ifs : List Expr) (gs : List Comprehension) : List Comprehension := ⟨tg, iter, ifs, 0⟩ :: gs
/-- what the block's parts are to do, wherever the block starts -/
def BlkR (X : Cx) (fx : Fx) (elt tg iter : Expr) (ifs : List Expr) (gs : List Comprehension) (scope : Scope) (pos : Pos) (elt' : E) (t' : Tg) (c' : Es) (g' : Gs) : Prop :=
  ∀ (s : Shared) (H : Hp) (C : Addr) (cl : List (Str × Addr)) (fp : List Addr), PG (X.blk s H scope (compEnvC scope cl C X.env) fp) tg (tG X.K fx W0 t') ∧ PTs (X.blk s H scope (compEnvC scope cl C X.env) fp) ifs (tTs X.K fx W0 c') ∧
    ∀ Dl, Lv (X.blk s H scope (compEnvC scope cl C X.env) fp) Dl elt (allG tg iter ifs gs) scope pos 1 (slG g') (evGs fx g' fun e S => (evE fx elt' e S).bind fun x S => .ok [x] S)
theorem lcN_core {pins : List (Addr × Obj)} {s : Shared} {σ : L2.St} {H : Hp} {Q : VK} {use : Option (Value → Sem Unit)} {Qf : Value → Shared → Prop}
    (hc : X.calm = true) (hN : X.N.Nodup) (I : Inv X pins σ H s) (hi : PI X tg iter (tI X.K fx W it')) (ok : BlkOk X.N X.env.scope scope own) (hb : BlkR X fx elt tg iter ifs gs scope pos elt' t' c' g')
    (hsl : ∀ j, j ∈ slT t' ++ slG g' → j ∈ own.map (·.2)) (hs : ∀ x, foldedSetIterable iter X.env x = pure x) (h : tFr X.K fx W (.lc (own.map (·.2)) elt' t' it' c' g') σ H Q)
    (fin : ∀ D C s' m H', Inv X pins σ H' s' → Q (.ref D) H' → s'.heap.Ns C m → FpOk X pins H' C → compPost (model X.prog X.w) X.A X.xe use Qf (.ref D) C (.ok .next) s') :
    wpAny (model X.prog X.w) X.A (comprehension (.ListComp elt (allG tg iter ifs gs) scope pos) scope X.env pos' (newList []) false (eval iter X.env) use) Qf X.xe s := by
  obtain ⟨env, A, S, hE, hS, h⟩ := h
  unfold evE at h
  have hi0 : tI X.K fx W it' σ H fun J H1 => ∃ A1 S1 S2 items ys, Ext A H A1 H1 ∧ SR X.K H1 A1 S1 ∧ Yl X.K A1 H1 items J ∧ compL (bodyOf fx t' c' (evGs fx g' fun e S => (evE fx elt' e S).bind fun x S => .ok [x] S) (wipeE env (own.map (·.2)))) items S1 = .ok ys S2 ∧ ys.length ≤ LIM ∧ RF X.K W σ A H (.ok (.lst ys) S2) Q := by
    refine ⟨env, A, S, hE, hS, ?_⟩
    cases r : evIt fx it' env S with
    | bad => rw [r] at h; exact h.elim
    | exc c S1 => rw [r] at h; exact h
    | ok items S1 =>
      rw [r] at h
      intro J H1 A1 x1 s1 y1
      have h : RF X.K W σ A H (match compL (bodyOf fx t' c' (evGs fx g' fun e S => (evE fx elt' e S).bind fun x S => .ok [x] S) (wipeE env (own.map (·.2)))) items S1 with
        | .ok ds S => if ds.length ≤ LIM then .ok (.lst ds) S else .bad
        | _ => .bad) Q := h
      cases r2 : compL (bodyOf fx t' c' (evGs fx g' fun e S => (evE fx elt' e S).bind fun x S => .ok [x] S) (wipeE env (own.map (·.2)))) items S1 with
      | bad => rw [r2] at h; exact h.elim
      | exc c S1 => rw [r2] at h; exact h.elim
      | ok ys S2 =>
        rw [r2] at h
        have h : RF X.K W σ A H (if ys.length ≤ LIM then .ok (.lst ys) S2 else .bad) Q := h
        split at h
        · rename_i hz
          exact ⟨A1, S1, S2, items, ys, x1, s1, y1, r2, hz, h⟩
        · exact h.elim
  have hfree : ∀ y ∈ scope.names, y.2 = .free → ∃ c, X.env.cells.lookup y.1 = some c := fun y hy e => (ok.free y hy e).elim (fun k => I.ok.has _ (.inl k)) fun k => I.ok.has _ (.inr k)
  refine wpAny_comprehension_free (gs := gs) (use := use) rfl hs (closure_ok hfree) ok.kind (fun y hy e => by rw [ok.uniq y hy, e]) (thn (hi.run pins s σ H _ I hi0) fun xv s1 hx => thn hx fun itv s2 h2 => ?_)
  obtain ⟨it, fp, tn, J, H2, e, I2, T, st2, f2, A1, S1, S2, items, ys, x1, sr1, y1, hcomp, hz, hq⟩ := h2
  subst e
  refine wpAny_newObj_type (newEnv_comp ?_) (by show 0 ≤ sizeLine; decide)
  generalize hD : s2.heap.objs.size = D
  have hDn : H2 D = none := I2.hok.fresh (Nat.le_of_eq hD)
  -- the list that is being made
  generalize hs3 : ({ s2 with heap := s2.heap.push { cls := .type "list", data := .seq ([] : List Value).toArray } } : Shared) = s3
  have h3 : s3.heap = s2.heap.push { cls := .type "list", data := .seq ([] : List Value).toArray } := by rw [← hs3]
  have at3 : s3.heap.get? D = some { cls := .type "list", data := .seq ([] : List Value).toArray } := by rw [h3, ← hD]; exact Heap.get?_push_size _ rfl
  have I3 : Inv X pins σ (upd H2 D (.lst [])) s3 := by
    have := I2.laid (t' := s2.toks) (a := D) (o := .lst []) (h' := s3.heap) (fun b o e => by rw [h3]; exact Heap.get?_push_of_some _ e) (Nat.le_of_eq hD) ⟨Nat.zero_le _, [], 0, .nil, at3⟩
    rw [← hs3] at this ⊢
    exact this
  have f3 : ∀ b ∈ fp, FpOk X pins (upd H2 D (.lst [])) b ∧ b < s3.heap.objs.size := fun b hb => by
    obtain ⟨o, e, _⟩ := T.obj _ _ st2 b hb
    have hlt : b < s2.heap.objs.size := Heap.lt_size e
    have ne : b ≠ D := by rw [← hD]; exact Nat.ne_of_lt hlt
    exact ⟨⟨by rw [upd_ne ne]; exact (f2 b hb).1, (f2 b hb).2⟩, by rw [h3, Heap.size_push]; exact Nat.lt_succ_of_lt hlt⟩
  have st3 : tn 0 s3.heap := T.keep _ _ _ st2 fun b _ o e => by rw [h3]; exact Heap.get?_push_of_some _ e
  have I4 := block_start I3 ok hN f3
  obtain ⟨pg, pt, lv⟩ := hb s3 (upd H2 D (.lst [])) s3.heap.objs.size (cellsFrom (s3.heap.objs.size + 1) scope.names (cloFrom X.env.cells scope.names [])) fp
  show codeAny _ _ (.compStart (.ListComp elt (allG tg iter ifs gs) scope pos) 0 (.ref it) (.ref D) (compEnvC scope (cellsFrom (s3.heap.objs.size + 1) scope.names (cloFrom X.env.cells scope.names [])) s3.heap.objs.size X.env)) _ { s3 with heap := pushCells (s3.heap.push { cls := .type "dict", data := .dict #[] }) scope.names }
  generalize hce : compEnvC scope (cellsFrom (s3.heap.objs.size + 1) scope.names (cloFrom X.env.cells scope.names [])) s3.heap.objs.size X.env = ce at I4 pg pt lv ⊢
  have cL : ce.locals = s3.heap.objs.size := by subst hce; rfl
  generalize hs4 : ({ s3 with heap := pushCells (s3.heap.push { cls := .type "dict", data := .dict #[] }) scope.names } : Shared) = s4 at I4 ⊢
  have st4 : tn 0 s4.heap := T.keep _ _ _ st3 fun b _ o e => by rw [← hs4]; exact pushCells_keeps _ _ _ _ (Heap.get?_push_of_some _ e)
  have hE3 : EnvR X.K (upd H2 D (.lst [])) (A1.push D) (wipeE env (own.map (·.2))) (wipe σ (own.map (·.2))) := ((hE.mono x1 hS.noTup).mkO sr1 hDn).wipe _
  have y3 : Yl X.K (A1.push D) (upd H2 D (.lst [])) items J := fun A' H' x nt => y1 A' H' (by
    refine ⟨fun a u n r => ?_, fun a u n r => ?_, fun k a b h => x.pre k a b h, fun a h => ?_⟩
    · have ne : a ≠ D := fun z => rd_ne r (by rw [z]; exact hDn)
      refine x.rd a u (fun z => (live_push.mp z).elim n ne) ?_
      rcases r with r | ⟨o', r⟩
      · exact .inl (by rw [upd_ne ne]; exact r)
      · exact .inr ⟨o', by rw [upd_ne ne]; exact r⟩
    · have ne : a ≠ D := fun z => by rw [z, hDn] at r; cases r
      exact x.ls a u (fun z => (live_push.mp z).elim n ne) (by rw [upd_ne ne]; exact r)
    · by_cases ne : a = D
      · exact .inr (by rw [ne]; exact hDn)
      · rcases x.new a h with q | q
        · exact (live_push.mp q).elim .inl fun z => absurd z ne
        · rw [upd_ne ne] at q
          exact .inr q) nt
  have fB : ∀ b ∈ fp, FpOk (X.blk s3 (upd H2 D (.lst [])) scope ce fp) [] (upd H2 D (.lst [])) b := fun b hb =>
    ⟨(f3 b hb).1.1, (I4.ok.exf b hb).1, I4.ok.exfs b hb, .inl hb, fun x c e => (I4.ok.exf b hb).2 x c e, fun p hp => absurd (show p ∈ ([] : List (Addr × Obj)) ++ [] from hp) (by simp)⟩
  have loop := loop_ok (B := X.blk s3 (upd H2 D (.lst [])) scope ce fp) (Dl := D) (elt := elt) (gens := allG tg iter ifs gs) (scope := scope) (pos := pos) (k := 0) (vs' := slG g') rfl rfl hc pg pt (lv D) [] s4 (wipe σ (own.map (·.2))) (upd H2 D (.lst []))
    (wipeE env (own.map (·.2))) (A1.push D) S1 items [] ys S2 J it fp tn I4 hE3 (fun j hj d q => (wipeE_some q).2 (hsl j hj)) (sr1.mkO hDn) List.mem_cons_self upd_same y3 T st4 fB hcomp (by simpa using hz)
  refine codeAny_mono (start_ok (gens := allG tg iter ifs gs) (k := 0) rfl loop (T.self X.A 0 _ _ _ st4 loop)) fun r s' hr => ?_
  obtain ⟨rfl, σ6, H6, A6, us, I6, x6, sr6, hl6, r6, _, _⟩ := hr
  obtain ⟨x7, sr7, r7⟩ := made_out sr1 hDn x6 sr6 r6
  have I7 : Inv X pins σ H6 s' := I3.call' (ch := fp) I6.os I6.base I6.hok I6.bare fun b hb => ⟨(f3 b hb).1.2.2.2.1, (f3 b hb).1.2.1, (f3 b hb).1.2.2.2.2.1, (f3 b hb).1.2.2.2.2.2⟩
  have nC : H6 s3.heap.objs.size = none := by
    have z : H6 ce.locals = none := I6.free
    rw [cL] at z
    exact z
  obtain ⟨m, hn, _⟩ := I6.loc
  have hn : s'.heap.Ns ce.locals m := hn
  rw [cL] at hn
  refine cL ▸ fin D s3.heap.objs.size s' m H6 I7 ?_ hn (I3.fpOk (Nat.le_refl _) nC)
  have q := hq (rmv H6 D) A6.pop us D (x1.trans x7) sr7 r7 rmv_same
  rw [List.nil_append] at hl6
  rw [upd_rmv hl6] at q
  exact q
end
end Rs
end

section
set_option Elab.async false
set_option linter.all false
set_option maxRecDepth 100000
set_option maxHeartbeats 1000000
set_option autoImplicit false
/-! RsSnd3: calls, built-ins, methods, lists that change. Own work over HandS. -/
namespace Rs
open PySem PySem.Spec PyProof.Rows L2

/-! ### comprehensions; new lists, frozen or to be changed -/
section
variable {X : Cx} {fx : Fx} {W : WX} {pos : Pos}
theorem r_lcF {elt tg iter : Expr} {ifs : List Expr} {gs : List Comprehension} {scope : Scope} {own : List (Str × Nat)} {t' : Tg} {it' : Rs.It} {c' : Es} {g' : Gs} {elt' : E}
    (hc : X.calm = true) (hN : X.N.Nodup) (hi : PI X tg iter (tI X.K fx W it')) (ok : BlkOk X.N X.env.scope scope own) (hb : BlkR X fx elt tg iter ifs gs scope pos elt' t' c' g')
    (hsl : ∀ j, j ∈ slT t' ++ slG g' → j ∈ own.map (·.2)) (hs : ∀ x, foldedSetIterable iter X.env x = pure x) : PE X (.ListComp elt (allG tg iter ifs gs) scope pos) (tFr X.K fx W (.lc (own.map (·.2)) elt' t' it' c' g')) := by
  refine ⟨fun pins s σ H Q I h => ?_⟩
  rw [eval_ListComp]
  refine lcN_core hc hN I hi ok hb hsl hs h fun D C s' m H' I' q hn f => ⟨m, hn, fun h'' sb => ?_⟩
  obtain ⟨f0, f1, f2, f3, f4, f5⟩ := f
  exact ⟨.ref D, H', I'.turned (t' := s'.toks) (fun b o hb e => (sb.2 b hb).trans e) f0 f1 f3 f4 f5, rfl, q⟩
/-- what always gives a list -/
def GivesL (fx : Fx) (e : E) : Prop := ∀ env S d S', evE fx e env S = .ok d S' → ∃ ds, d = .lst ds
theorem r_fro {e : Expr} {e' : E} (h : PE X e (tFr X.K fx W e')) (hl : GivesL fx e') : PE X e (tE X.K fx W e') :=
  PE.imp h fun σ H Q ⟨env, A, S, hE, hS, q⟩ => by
    refine ⟨env, A, S, hE, hS, ?_⟩
    cases r : evE fx e' env S with
    | bad => rw [r] at q; exact q
    | exc c S1 => rw [r] at q; exact q
    | ok d S1 =>
      rw [r] at q
      obtain ⟨ds, rfl⟩ := hl _ _ _ _ r
      intro H1 A1 vs p x1 s1 r1 hp
      exact Out.lstN (Out.mono q x1) s1 r1 hp
theorem r_mut {e : Expr} {e' : E} (h : PE X e (tFr X.K fx W e')) (hl : GivesL fx e') : PE X e (tE X.K fx W (.mut e')) :=
  PE.imp h fun σ H Q ⟨env, A, S, hE, hS, q⟩ => by
    refine ⟨env, A, S, hE, hS, ?_⟩
    unfold evE at q
    cases r : evE fx e' env S with
    | bad => rw [r] at q; exact q
    | exc c S1 => rw [r] at q; exact q
    | ok d S1 =>
      rw [r] at q
      obtain ⟨ds, rfl⟩ := hl _ _ _ _ r
      intro H1 A1 vs p x1 s1 r1 hp
      have q : Out X.K A H (S1 ++ [.lst ds]) (.ref S1.length) Q := q
      have x2 : Ext A1 H1 (A1.add p) (upd H1 p (.lst vs)) := ext_cell hp (s1.notO hp)
      refine q (.ref p) (upd H1 p (.lst vs)) (A1.add p) (x1.trans x2) (s1.push hp rfl ⟨vs, upd_same, r1.mono x2 s1.noTup⟩) ?_
      unfold Rp
      refine ⟨p, true, ?_, rfl⟩
      show (A1.c ++ [(p, true)])[S1.length]? = _
      rw [← s1.len]
      simp
theorem gl_lc {own : List Nat} {elt : E} {t : Tg} {it : Rs.It} {c : Es} {g : Gs} : GivesL fx (.lc own elt t it c g) := by
  intro env S d S' h
  unfold evE at h
  cases r : evIt fx it env S with
  | bad => rw [r] at h; cases h
  | exc c S1 => rw [r] at h; cases h
  | ok items S1 =>
    rw [r] at h
    simp only [R.bind] at h
    split at h
    · split at h
      · cases h; exact ⟨_, rfl⟩
      · cases h
    · cases h
theorem gl_lst {es : Es} : GivesL fx (.lst es) := by
  intro env S d S' h
  unfold evE at h
  cases r : evEs fx es env S with
  | bad => rw [r] at h; cases h
  | exc c S1 => rw [r] at h; cases h
  | ok items S1 =>
    rw [r] at h
    simp only [R.bind] at h
    split at h
    · cases h; exact ⟨_, rfl⟩
    · cases h
theorem r_lstF {es : List Expr} {es' : Es} (h : PA X es (tEs X.K fx W es')) : PE X (.List es pos) (tFr X.K fx W (.lst es')) :=
  PE.imp (pe_lst h) fun σ H Q ⟨env, A, S, hE, hS, h⟩ => by
    unfold evE at h
    refine ⟨env, A, S, hE, hS, ?_⟩
    cases r : evEs fx es' env S with
    | bad => rw [r] at h; exact h.elim
    | exc c S1 => rw [r] at h; exact h
    | ok ds S1 =>
      rw [r] at h
      intro vs H1 A1 x1 s1 r1
      have h : RF X.K W σ A H (if ds.length ≤ LIM then .ok (.lst ds) S1 else .bad) Q := h
      split at h
      · rename_i hz
        exact ⟨by rw [← r1.length]; exact lim_size hz, fun p hp => h H1 A1 vs p x1 s1 r1 hp⟩
      · exact h.elim

/-! ### built-in functions, methods, kinds -/
theorem r_bltB {o : Blt} {id : String} {x : Str} {p : Pos} {e : Expr} {es : List Expr} {as : Es} (hc : CallR X (.builtin id) (rBl X.K fun S => bltD S o)) (hg : Gl X x) (hm : X.mg x = none) (hv : bootBuiltins x = some (.builtin id)) (ha : PA X (e :: es) (tEs X.K fx W as)) (hn : x ≠ "__name__")
    (hdb : (x == ("__debug__" : Str)) = false) (he : starEach (e :: es) X.env = (false, eval e X.env) :: starEach es X.env) (hpl : (backTo pos (starEach es X.env)).any (·.1) = false) : PE X (.Call (.Name x p) (e :: es) [] pos) (tE X.K fx W (.blt o as)) :=
  PE.imp (pe_callB hc hg hm hv ha hn hdb he hpl) fun σ H Q ⟨env, A, S, hE, hS, h⟩ => by
    unfold evE at h
    refine ⟨env, A, S, hE, hS, RPs.imp (RPs.bind h) fun vs H1 ⟨A1, S1, ds, x1, s1, r1, h1⟩ => ?_⟩
    obtain ⟨z, h3, h4⟩ := RP.of h1
    exact ⟨A1, S1, ds, z, s1, r1, h3, h4⟩
theorem r_bltT {o : Blt} {id : String} {x : Str} {p : Pos} {e : Expr} {es : List Expr} {as : Es} (hc : CallR X (.type id) (rBl X.K fun S => bltD S o)) (hg : Gl X x) (hm : X.mg x = none) (hv : bootBuiltins x = some (.type id)) (ha : PA X (e :: es) (tEs X.K fx W as)) (hn : x ≠ "__name__")
    (hdb : (x == ("__debug__" : Str)) = false) (he : starEach (e :: es) X.env = (false, eval e X.env) :: starEach es X.env) (hpl : (backTo pos (starEach es X.env)).any (·.1) = false) : PE X (.Call (.Name x p) (e :: es) [] pos) (tE X.K fx W (.blt o as)) :=
  PE.imp (pe_callTy hc hg hm hv ha hn hdb he hpl) fun σ H Q ⟨env, A, S, hE, hS, h⟩ => by
    unfold evE at h
    refine ⟨env, A, S, hE, hS, RPs.imp (RPs.bind h) fun vs H1 ⟨A1, S1, ds, x1, s1, r1, h1⟩ => ?_⟩
    obtain ⟨z, h3, h4⟩ := RP.of h1
    exact ⟨A1, S1, ds, z, s1, r1, h3, h4⟩
/-- a built-in type as an argument -/
theorem r_isi {a : Expr} {a' : E} {p p2 : Pos} {t : Ty} {x : Str} (hg : Gl X "isinstance") (hm : X.mg "isinstance" = none) (ha : PE X a (tE X.K fx W a')) (hgt : Gl X x) (hmt : X.mg x = none) (hvt : bootBuiltins x = some (.type (tyName t))) (hnt : x ≠ "__name__") (hdt : (x == ("__debug__" : Str)) = false)
    (he : starEach [a, .Name x p2] X.env = (false, eval a X.env) :: starEach [.Name x p2] X.env) (he2 : starEach [.Name x p2] X.env = (false, eval (.Name x p2) X.env) :: starEach [] X.env) (hpl : (backTo pos (starEach [.Name x p2] X.env)).any (·.1) = false) :
    PE X (.Call (.Name "isinstance" p) [a, .Name x p2] [] pos) (tE X.K fx W (.isi a' t)) :=
  PE.imp (pe_callB (call_isiD fx.sub t) hg hm PyProof.Rows.boot_isinstance (pa_cons ha (pa_cons (pe_bltn (v := .ty (tyName t)) hgt hmt hvt rfl hnt hdt) pa_nil he2) he) (by decide) (by decide) he hpl) fun σ H Q ⟨env, A, S, hE, hS, h⟩ => by
    unfold evE at h
    refine ⟨env, A, S, hE, hS, RP.imp (RP.bind h) fun v H1 ⟨A1, S1, d, x1, s1, r1, h1⟩ => ?_⟩
    obtain ⟨z, h3, h4⟩ := RP.of h1
    obtain ⟨b, h5, rfl⟩ := Option.map_eq_some_iff.mp h3
    exact ⟨A1, S1, d, v, b, rfl, s1, r1, h5, h4.here s1 rp_bl⟩

/-! ### calls of own defs -/
/-- a def's promise: it does what r says -/
def spR (K : PySem.W.Frag) (r : List D → Store → R D) : Sp := fun vs H Q E => ∃ ds A S, Rps K H A ds vs ∧ SR K H A S ∧ RP K (fun c d _ H => E c d H) [] A H (r ds S) Q
theorem r_call {k i : Nat} {f : Addr} {fd : FuncData} {ps : List Str} {x : Str} {p : Pos} {e : Expr} {es : List Expr} {as : Es} (G : GOk X.prog X.w X.K X.mg X.base k f fd ps (spR X.K (fx.F i))) (hr : Room k X.A) (hgd : X.A.guards = some []) (hg : Gl X x) (hm : X.mg x = some (.ref f))
    (hk : PySem.W.keepIn X.K (.ref f) = true) (hb : BindsAll X.K fd ps) (tk : Takes X W) (ha : PA X (e :: es) (tEs X.K fx W as)) (hdb : (x == ("__debug__" : Str)) = false) (he : starEach (e :: es) X.env = (false, eval e X.env) :: starEach es X.env) (hpl : (backTo pos (starEach es X.env)).any (·.1) = false) :
    PE X (.Call (.Name x p) (e :: es) [] pos) (tE X.K fx W (.call i as)) := by
  refine ⟨fun pins s σ H Q I ⟨env, A, S, hE, hS, h⟩ => ?_⟩
  unfold evE at h
  refine wpAny_Call_Name_kw (ld_glob I hg hm ?_ hdb)
  refine PySem.W.callWith_K (h₀ := X.base) I.ok.mod.kin hk (thn (ha.run pos pins s σ H _ I ⟨env, A, S, hE, hS, RPs.bind h⟩) fun us s1 ⟨vs, H1, I1, r, A1, S1, ds, x1, s1', r1, h1⟩ => ⟨I1.kIn, ?_⟩) he hpl
  exact run_G (args := ⟨us, []⟩) (E := WE W σ) G hr hgd (fun hl => hb.to hl) (passAt tk σ) I1 r ⟨ds, A1, S1, r1, s1', h1⟩
theorem r_call0 {k i : Nat} {f : Addr} {fd : FuncData} {ps : List Str} {x : Str} {p : Pos} (G : GOk X.prog X.w X.K X.mg X.base k f fd ps (spR X.K (fx.F i))) (hr : Room k X.A) (hgd : X.A.guards = some []) (hg : Gl X x) (hm : X.mg x = some (.ref f))
    (hk : PySem.W.keepIn X.K (.ref f) = true) (hb : BindsAll X.K fd ps) (tk : Takes X W) (hdb : (x == ("__debug__" : Str)) = false) : PE X (.Call (.Name x p) [] [] pos) (tE X.K fx W (.call i .nil)) := by
  refine ⟨fun pins s σ H Q I ⟨env, A, S, hE, hS, h⟩ => ?_⟩
  unfold evE at h
  unfold evEs at h
  refine wpAny_Call_Name_kw (ld_glob I hg hm ?_ hdb)
  refine PySem.W.callWith_K0 I.kIn hk ?_
  exact run_G (args := ⟨[], []⟩) (E := WE W σ) G hr hgd (fun hl => hb.to hl) (passAt tk σ) I .nil ⟨[], A, S, Rps.nil, hS, h⟩

/-! ### methods of lists -/
theorem tyV_view {K : PySem.W.Frag} {H : Hp} {A : Ads} {S : Store} (s : SR K H A S) {d : D} {v : V} {xs : List D} (r : Rp K H A d v) (h : view S d = .lst xs) : tyV K "list" v H := by
  obtain ⟨a, vs, rfl, q, _⟩ := view_lst s r h
  exact .inl ⟨rfl, vs, SqL.of q⟩
def mthName : Mth → Str
  | .count => "count"
  | .index => "index"
theorem r_mth {o : Mth} {a e : Expr} {es : List Expr} {a' : E} {as : Es} {apos : Pos} (hu : X.A.units + 65 < cLine) (ha : PE X a (tE X.K fx W a')) (hs : PA X (e :: es) (tEs X.K fx W as)) (hbase : attributeBase a (mthName o) X.env (eval a X.env) = eval a X.env)
    (hfew : ((backTo pos (starEach (e :: es) X.env)).all (fun x => !x.1) && (backToKw pos (keywordEach [] X.env)).all (fun x => x.1.isSome) && decide ((e :: es).length + ([] : List Keyword).length + (if ([] : List Keyword).isEmpty then 0 else 1) < 30)) = true)
    (hline : (apos.endLine == pos.line) = true) (he : starEach (e :: es) X.env = (false, eval e X.env) :: starEach es X.env) (hpl : (backTo pos (starEach es X.env)).any (·.1) = false) :
    PE X (.Call (.Attribute a (mthName o) apos) (e :: es) [] pos) (tE X.K fx W (.mth o a' as)) := by
  have key : ∀ {σ : L2.St} {H : Hp} {Q : VK}, tE X.K fx W (.mth o a' as) σ H Q → tBM X.K "list" (rMt X.K fun S => mthD S o) (tE X.K fx W a') (tEs X.K fx W as) σ H Q := fun {σ H Q} ⟨env, A, S, hE, hS, h⟩ => by
    unfold evE at h
    refine ⟨env, A, S, hE, hS, RP.imp (RP.bind h) fun v H1 ⟨A1, S1, d, x1, s1, r1, h1⟩ => ?_⟩
    split at h1
    · rename_i e1
      refine ⟨tyV_view s1 r1 e1, env, A1, S1, hE.mono x1 hS.noTup, s1, RPs.imp (RPs.bind h1) fun vs H2 ⟨A2, S2, ds, x2, s2, r2, h2⟩ => ?_⟩
      obtain ⟨z, h3, h4⟩ := RP.of h2
      exact ⟨A2, S2, d, ds, z, s2, r1.mono x2 s1.noTup, r2, h3, h4⟩
    · exact h1.elim
  cases o with
  | count => exact PE.imp (pe_bm PySem.F.plainAttrs_list PySem.F.slot_list_count PySem.F.type_list_count (mt_cntD hu) ha hs hbase hfew hline he hpl) fun σ H Q h => key h
  | index => exact PE.imp (pe_bm PySem.F.plainAttrs_list PySem.F.slot_list_index PySem.F.type_list_index (mt_idxD hu) ha hs hbase hfew hline he hpl) fun σ H Q h => key h
theorem r_app {a e : Expr} {a' e' : E} {apos : Pos} (ha : PE X a (tE X.K fx W a')) (hs : PE X e (tE X.K fx W e')) (hbase : attributeBase a "append" X.env (eval a X.env) = eval a X.env)
    (hfew : ((backTo pos (starEach [e] X.env)).all (fun x => !x.1) && (backToKw pos (keywordEach [] X.env)).all (fun x => x.1.isSome) && decide ([e].length + ([] : List Keyword).length + (if ([] : List Keyword).isEmpty then 0 else 1) < 30)) = true)
    (hline : (apos.endLine == pos.line) = true) (he : starEach [e] X.env = (false, eval e X.env) :: starEach [] X.env) (hpl : (backTo pos (starEach [] X.env)).any (·.1) = false) :
    PE X (.Call (.Attribute a "append" apos) [e] [] pos) (tE X.K fx W (.app a' e')) :=
  PE.imp (pe_bm PySem.F.plainAttrs_list PySem.F.slot_list_append PySem.F.type_list_append mt_append ha (pa_cons hs pa_nil he) hbase hfew hline he hpl) fun σ H Q ⟨env, A, S, hE, hS, h⟩ => by
    unfold evE at h
    refine ⟨env, A, S, hE, hS, RP.imp (RP.bind h) fun v H1 ⟨A1, S1, d, x1, s1, r1, h1⟩ => ?_⟩
    split at h1
    · rename_i e1
      refine ⟨tyV_view s1 r1 e1, env, A1, S1, hE.mono x1 hS.noTup, s1, RP.imp (RP.bind h1) fun u H2 ⟨A2, S2, d2, x2, s2, r2, h2⟩ => ?_⟩
      split at h2
      · split at h2
        · rename_i xs eS
          split at h2
          · rename_i hz
            have q1 := r1.mono x2 s1.noTup
            obtain ⟨l, b, hl, rfl⟩ := q1.ref
            obtain ⟨l', hl', hc⟩ := s2.get eS rfl
            rw [hl] at hl'
            cases hl'
            obtain ⟨vs, hH, hv⟩ := hc
            refine ⟨l, vs, u, rfl, rfl, hH, by rw [← hv.length, sizeLine_eq]; have : LIM = 100000 := rfl; omega, ?_⟩
            have x3 : Ext A2 H2 A2 (upd H2 l (.lst (vs ++ [u]))) := s2.extUpd hl
            exact h2 .non _ A2 x3 (s2.set hl rfl ⟨_, upd_same, (hv.snoc r2).mono x3 s2.noTup⟩) rp_non
          · exact h2.elim
        · exact h2.elim
      · exact h2.elim
    · exact h1.elim
theorem r_ext {a e : Expr} {a' e' : E} {apos : Pos} (ha : PE X a (tE X.K fx W a')) (hs : PE X e (tE X.K fx W e')) (hbase : attributeBase a "extend" X.env (eval a X.env) = eval a X.env)
    (hfew : ((backTo pos (starEach [e] X.env)).all (fun x => !x.1) && (backToKw pos (keywordEach [] X.env)).all (fun x => x.1.isSome) && decide ([e].length + ([] : List Keyword).length + (if ([] : List Keyword).isEmpty then 0 else 1) < 30)) = true)
    (hline : (apos.endLine == pos.line) = true) (he : starEach [e] X.env = (false, eval e X.env) :: starEach [] X.env) (hpl : (backTo pos (starEach [] X.env)).any (·.1) = false) :
    PE X (.Call (.Attribute a "extend" apos) [e] [] pos) (tE X.K fx W (.ext a' e')) :=
  PE.imp (pe_bm PySem.F.plainAttrs_list PySem.F.slot_list_extend PySem.F.type_list_extend mt_extend ha (pa_cons hs pa_nil he) hbase hfew hline he hpl) fun σ H Q ⟨env, A, S, hE, hS, h⟩ => by
    unfold evE at h
    refine ⟨env, A, S, hE, hS, RP.imp (RP.bind h) fun v H1 ⟨A1, S1, d, x1, s1, r1, h1⟩ => ?_⟩
    split at h1
    · rename_i e1
      refine ⟨tyV_view s1 r1 e1, env, A1, S1, hE.mono x1 hS.noTup, s1, RP.imp (RP.bind h1) fun u H2 ⟨A2, S2, d2, x2, s2, r2, h2⟩ => ?_⟩
      split at h2
      · split at h2
        · rename_i xs ys eS eV
          split at h2
          · rename_i hz
            have q1 := r1.mono x2 s1.noTup
            obtain ⟨l, b, hl, rfl⟩ := q1.ref
            obtain ⟨l', hl', hc⟩ := s2.get eS rfl
            rw [hl] at hl'
            cases hl'
            obtain ⟨vs, hH, hv⟩ := hc
            obtain ⟨m, us, rfl, hM, hw⟩ := view_lst s2 r2 eV
            refine ⟨l, m, vs, us, rfl, rfl, hH, hM, by rw [← hv.length, ← hw.length, sizeLine_eq]; have : LIM = 100000 := rfl; omega, ?_⟩
            have x3 : Ext A2 H2 A2 (upd H2 l (.lst (vs ++ us))) := s2.extUpd hl
            exact h2 .non _ A2 x3 (s2.set hl rfl ⟨_, upd_same, (hv.append hw).mono x3 s2.noTup⟩) rp_non
          · exact h2.elim
        · exact h2.elim
      · exact h2.elim
    · exact h1.elim
theorem r_pop {a : Expr} {a' : E} {apos : Pos} (ha : PE X a (tE X.K fx W a')) (hbase : attributeBase a "pop" X.env (eval a X.env) = eval a X.env) (hline : (apos.endLine == pos.line) = true) :
    PE X (.Call (.Attribute a "pop" apos) [] [] pos) (tE X.K fx W (.pop a')) :=
  PE.imp (pe_bm0 PySem.F.plainAttrs_list PySem.F.slot_list_pop PySem.F.type_list_pop mt_pop ha hbase hline) fun σ H Q ⟨env, A, S, hE, hS, h⟩ => by
    unfold evE at h
    refine ⟨env, A, S, hE, hS, RP.imp (RP.bind h) fun v H1 ⟨A1, S1, d, x1, s1, r1, h1⟩ => ?_⟩
    split at h1
    · split at h1
      · rename_i xs eS
        split at h1
        · rename_i d2 e2
          obtain ⟨l, b, hl, rfl⟩ := r1.ref
          obtain ⟨l', hl', hc⟩ := s1.get eS rfl
          rw [hl] at hl'
          cases hl'
          obtain ⟨vs, hH, hv⟩ := hc
          obtain ⟨y, hy, ry⟩ := hv.get e2
          have x3 : Ext A1 H1 A1 (upd H1 l (.lst vs.dropLast)) := s1.extUpd hl
          refine ⟨.inl ⟨rfl, vs, SqL.of hH⟩, l, vs, y, rfl, rfl, hH, by rw [← hv.length]; exact hy, ?_⟩
          exact h1 y _ A1 x3 (s1.set hl rfl ⟨_, upd_same, hv.dropLast.mono x3 s1.noTup⟩) (ry.mono x3 s1.noTup)
        · exact h1.elim
      · exact h1.elim
    · exact h1.elim
end
end Rs
end

section
set_option Elab.async false
set_option linter.all false
set_option maxRecDepth 100000
set_option maxHeartbeats 1000000
set_option autoImplicit false
/-! RsSnd4: statements: what the evaluator says is what is done. Own work over HandS. -/
namespace Rs
open PySem PySem.Spec PyProof.Rows L2

/-! ### what is wanted behind a statement -/
def EndR (K : PySem.W.Frag) (A : Ads) (H : Hp) (env1 : Nv) (S : Store) (Q : L2.St → Hp → Prop) : Prop :=
  ∀ σ' H' A', Ext A H A' H' → SR K H' A' S → EnvR K H' A' env1 σ' → Q σ' H'
def RSt (K : PySem.W.Frag) (W : WX) (A : Ads) (H : Hp) (r : RS) (Z : Ends) : Prop :=
  match r with
  | .ok (.nx env1) S => EndR K A H env1 S Z.nx
  | .ok (.bk env1) S => EndR K A H env1 S Z.bk
  | .ok (.ct env1) S => EndR K A H env1 S Z.ct
  | .ok (.rt d) S => Out K A H S d Z.rt
  | .exc c env1 S => EndR K A H env1 S fun σ' H' => W (.ref (He.ga K c)) none σ' H'
  | .bad => False
def tS (K : PySem.W.Frag) (fx : Fx) (W : WX) (c : C) : TS := fun Z σ H => ∃ env A S, EnvR K H A env σ ∧ SR K H A S ∧ RSt K W A H (evC fx c env S) Z
def tSs (K : PySem.W.Frag) (fx : Fx) (W : WX) (c : Cs) : TS := fun Z σ H => ∃ env A S, EnvR K H A env σ ∧ SR K H A S ∧ RSt K W A H (evCs fx c env S) Z
section
variable {K : PySem.W.Frag} {W : WX} {σ : L2.St} {A A' : Ads} {H H' : Hp} {S : Store} {Z : Ends} {env : Nv}
theorem EndR.mono {Q : L2.St → Hp → Prop} (h : EndR K A H env S Q) (x : Ext A H A' H') : EndR K A' H' env S Q := fun σ2 H2 A2 y s e => h σ2 H2 A2 (x.trans y) s e
theorem EndR.here {Q : L2.St → Hp → Prop} (h : EndR K A H env S Q) (s : SR K H A S) (e : EnvR K H A env σ) : Q σ H := h σ H A (Ext.refl A H) s e
theorem RSt.mono {r : RS} (h : RSt K W A H r Z) (x : Ext A H A' H') : RSt K W A' H' r Z := by
  cases r with
  | ok f S =>
    cases f with
    | nx e => exact EndR.mono h x
    | bk e => exact EndR.mono h x
    | ct e => exact EndR.mono h x
    | rt d => exact Out.mono h x
  | exc c e S => exact EndR.mono h x
  | bad => exact h
/-- an expression, then the rest -/
theorem RSt.of {r : R D} {f : D → Store → RS} (h : RSt K W A H (RS.of r env f) Z) (hE : EnvR K H A env σ) (hS : SR K H A S) :
    RP K W σ A H r fun v H1 => ∃ A1 S1 d, Ext A H A1 H1 ∧ SR K H1 A1 S1 ∧ Rp K H1 A1 d v ∧ RSt K W A1 H1 (f d S1) Z := by
  cases r with
  | ok d S1 => exact fun v H1 A1 x s r => ⟨A1, S1, d, x, s, r, RSt.mono (r := f d S1) h x⟩
  | exc c S1 => exact fun A1 H1 x s => h σ H1 A1 x s (hE.mono x hS.noTup)
  | bad => exact h
theorem RSt.ofT {r : R D} {f : Bool → Store → RS} (h : RSt K W A H (RS.of r env fun x S => match truth S x with
      | some b => f b S
      | none => .bad) Z) (hE : EnvR K H A env σ) (hS : SR K H A S) :
    RT K W σ A H r fun b H1 => ∃ A1 S1, Ext A H A1 H1 ∧ SR K H1 A1 S1 ∧ RSt K W A1 H1 (f b S1) Z := by
  cases r with
  | ok d S1 =>
    have h : RSt K W A H (match truth S1 d with
      | some b => f b S1
      | none => .bad) Z := h
    cases t : truth S1 d with
    | none => rw [t] at h; exact h.elim
    | some b =>
      rw [t] at h
      exact ⟨b, t, fun A1 H1 x s => ⟨A1, S1, x, s, RSt.mono (r := f b S1) h x⟩⟩
  | exc c S1 => exact fun A1 H1 x s => h σ H1 A1 x s (hE.mono x hS.noTup)
  | bad => exact h
end

/-! ### the rules -/
section
variable {X : Cx} {fx : Fx} {W : WX} {pos : Pos}
theorem PS.imp {e : Stmt} {t t' : TS} (h : PS X e t) (k : ∀ Z σ H, t' Z σ H → t Z σ H) : PS X e t' := ⟨fun pins s σ H Z I q => h.run pins s σ H Z I (k Z σ H q)⟩
theorem PSs.imp {e : List Stmt} {t t' : TS} (h : PSs X e t) (k : ∀ Z σ H, t' Z σ H → t Z σ H) : PSs X e t' := ⟨fun pins s σ H Z I q => h.run pins s σ H Z I (k Z σ H q)⟩
theorem s_nil : PSs X [] (tSs X.K fx W .nil) :=
  PSs.imp pss_nil fun Z σ H ⟨env, A, S, hE, hS, h⟩ => by
    unfold evCs at h
    exact EndR.here h hS hE
theorem s_cons {s : Stmt} {r : List Stmt} {c : C} {cs : Cs} (h1 : PS X s (tS X.K fx W c)) (h2 : PSs X r (tSs X.K fx W cs)) : PSs X (s :: r) (tSs X.K fx W (.cons c cs)) :=
  PSs.imp (pss_cons h1 h2) fun Z σ H ⟨env, A, S, hE, hS, h⟩ => by
    unfold evCs at h
    refine ⟨env, A, S, hE, hS, ?_⟩
    cases r1 : evC fx c env S with
    | ok f S1 =>
      rw [r1] at h
      cases f with
      | nx e => exact fun σ' H' A' x s' e' => ⟨e, A', S1, e', s', RSt.mono (r := evCs fx cs e S1) h x⟩
      | bk e => exact h
      | ct e => exact h
      | rt d => exact h
    | exc c e S1 => rw [r1] at h; exact h
    | bad => rw [r1] at h; exact h
theorem s_pass : PS X (.Pass pos) (tS X.K fx W .pass) :=
  PS.imp ps_pass fun Z σ H ⟨env, A, S, hE, hS, h⟩ => by
    unfold evC at h
    exact EndR.here h hS hE
theorem s_brk : PS X (.Break pos) (tS X.K fx W .brk) :=
  PS.imp ps_break fun Z σ H ⟨env, A, S, hE, hS, h⟩ => by
    unfold evC at h
    exact EndR.here h hS hE
theorem s_cnt : PS X (.Continue pos) (tS X.K fx W .cnt) :=
  PS.imp ps_continue fun Z σ H ⟨env, A, S, hE, hS, h⟩ => by
    unfold evC at h
    exact EndR.here h hS hE
theorem s_doc {x : Str} {j : Nat} {pos' : Pos} : PS X (.Expr (.Constant (.str x) j pos) pos') (tS X.K fx W .pass) :=
  PS.imp ps_doc fun Z σ H ⟨env, A, S, hE, hS, h⟩ => by
    unfold evC at h
    exact EndR.here h hS hE
theorem s_expr {e : Expr} {e' : E} (he : PE X e (tE X.K fx W e')) (hs : swapsWith e none pos.line X.env = pure false) : PS X (.Expr e pos) (tS X.K fx W (.expr e')) :=
  PS.imp (ps_expr he hs) fun Z σ H ⟨env, A, S, hE, hS, h⟩ => by
    unfold evC at h
    exact ⟨env, A, S, hE, hS, (RSt.of h hE hS).imp fun v H1 ⟨A1, S1, d, x1, s1, r1, h1⟩ => EndR.here h1 s1 (hE.mono x1 hS.noTup)⟩
theorem s_ret {e : Expr} {e' : E} (he : PE X e (tE X.K fx W e')) : PS X (.Return (some e) pos) (tS X.K fx W (.ret e')) :=
  PS.imp (ps_ret he) fun Z σ H ⟨env, A, S, hE, hS, h⟩ => by
    unfold evC at h
    exact ⟨env, A, S, hE, hS, (RSt.of h hE hS).imp fun v H1 ⟨A1, S1, d, x1, s1, r1, h1⟩ => Out.here h1 s1 r1⟩
theorem s_retN : PS X (.Return none pos) (tS X.K fx W .retN) :=
  PS.imp ps_retN fun Z σ H ⟨env, A, S, hE, hS, h⟩ => by
    unfold evC at h
    exact Out.here h hS rp_non
theorem rg_of {K : PySem.W.Frag} {σ : L2.St} {A : Ads} {H : Hp} {vs : List Nat} {r : R Nv} {env : Nv} {Z : Ends} {S : Store} (h : RSt K W A H (match r with
    | .ok env1 S1 => .ok (.nx env1) S1
    | .exc c S1 => .exc c env S1
    | .bad => .bad) Z) (hE : EnvR K H A env σ) (hS : SR K H A S) : RG K W σ A H vs r Z.nx := by
  cases r with
  | ok env1 S1 => exact fun σ' H' A' x s e _ _ => h σ' H' A' x s e
  | exc c S1 => exact fun A1 H1 x s => h σ H1 A1 x s (hE.mono x hS.noTup)
  | bad => exact h
theorem s_asg {tg e : Expr} {t : Tg} {e' : E} (he : PE X e (tE X.K fx W e')) (hg : PG X tg (tG X.K fx W t)) (hs : swapsWithSole [tg] e pos.line X.env = pure false) (hw : swappedStores [tg] e X.env = pure none) (h1 : (assignEach [tg] X.env).map (·.2) = [assign tg X.env]) :
    PS X (.Assign [tg] e pos) (tS X.K fx W (.asg t e')) :=
  PS.imp (ps_asg he hg hs hw h1) fun Z σ H ⟨env, A, S, hE, hS, h⟩ => by
    unfold evC at h
    refine ⟨env, A, S, hE, hS, (RSt.of h hE hS).imp fun v H1 ⟨A1, S1, d, x1, s1, r1, h1⟩ => ?_⟩
    have hE1 := hE.mono x1 hS.noTup
    exact ⟨env, A1, S1, d, hE1, s1, r1, rg_of h1 hE1 s1⟩
theorem s_par2 {i j : Nat} {x y : Str} {a b : Expr} {es : Es} {px py pt : Pos} {kt k2 : Nat} {pt2 : Pos} (hc : X.calm = true) (hN : X.N.Nodup) (hi : X.N[i]? = some x) (hj : X.N[j]? = some y) (hij : i ≠ j) (hx : X.env.scope.names.lookup x = some .local) (hy : X.env.scope.names.lookup y = some .local) (ha : PA X [a, b] (tEs X.K fx W es))
    (hw : swappedStores [.Tuple [.Name x px, .Name y py] kt pt] (.Tuple [a, b] k2 pt2) X.env = pure (some [x, y])) (hs : swapsWithSole [.Tuple [.Name x px, .Name y py] kt pt] (.Tuple [a, b] k2 pt2) pos.line X.env = pure false) :
    PS X (.Assign [.Tuple [.Name x px, .Name y py] kt pt] (.Tuple [a, b] k2 pt2) pos) (tS X.K fx W (.par [i, j] es)) :=
  PS.imp (ps_par hc hN hi hj hij hx hy ha hw hs) fun Z σ H ⟨env, A, S, hE, hS, h⟩ => by
    unfold evC at h
    refine ⟨env, A, S, hE, hS, ?_⟩
    cases r1 : evEs fx es env S with
    | bad => rw [r1] at h; exact h.elim
    | exc c S1 => rw [r1] at h; exact fun A1 H1 x s => h σ H1 A1 x s (hE.mono x hS.noTup)
    | ok ds S1 =>
      rw [r1] at h
      intro vs H1 A1 x1 s1 q1
      match ds, h, q1 with
      | [d, e], h, q1 =>
        obtain ⟨v, u, rfl, w1, w2⟩ := rps2 q1
        exact ⟨v, u, rfl, h _ H1 A1 x1 s1 (((hE.mono x1 hS.noTup).set i w1).set j w2)⟩
      | [], h, _ => exact h.elim
      | [_], h, _ => exact h.elim
      | _ :: _ :: _ :: _, h, _ => exact h.elim
theorem s_par3 {i j l : Nat} {x y z : Str} {a b c : Expr} {es : Es} {px py pz pt : Pos} {kt k2 : Nat} {pt2 : Pos} (hc : X.calm = true) (hN : X.N.Nodup) (hi : X.N[i]? = some x) (hj : X.N[j]? = some y) (hl : X.N[l]? = some z) (hij : i ≠ j) (hil : i ≠ l) (hjl : j ≠ l)
    (hx : X.env.scope.names.lookup x = some .local) (hy : X.env.scope.names.lookup y = some .local) (hz : X.env.scope.names.lookup z = some .local) (ha : PA X [a, b, c] (tEs X.K fx W es))
    (hw : swappedStores [.Tuple [.Name x px, .Name y py, .Name z pz] kt pt] (.Tuple [a, b, c] k2 pt2) X.env = pure (some [x, y, z])) (hs : swapsWithSole [.Tuple [.Name x px, .Name y py, .Name z pz] kt pt] (.Tuple [a, b, c] k2 pt2) pos.line X.env = pure false) :
    PS X (.Assign [.Tuple [.Name x px, .Name y py, .Name z pz] kt pt] (.Tuple [a, b, c] k2 pt2) pos) (tS X.K fx W (.par [i, j, l] es)) :=
  PS.imp (ps_par3 hc hN hi hj hl hij hil hjl hx hy hz ha hw hs) fun Z σ H ⟨env, A, S, hE, hS, h⟩ => by
    unfold evC at h
    refine ⟨env, A, S, hE, hS, ?_⟩
    cases r1 : evEs fx es env S with
    | bad => rw [r1] at h; exact h.elim
    | exc c S1 => rw [r1] at h; exact fun A1 H1 x s => h σ H1 A1 x s (hE.mono x hS.noTup)
    | ok ds S1 =>
      rw [r1] at h
      intro vs H1 A1 x1 s1 q1
      match ds, h, q1 with
      | [d, e, g], h, q1 =>
        obtain ⟨v, vs2, rfl, w0, q2⟩ := q1.inv
        obtain ⟨u, w, rfl, w1, w2⟩ := rps2 q2
        exact ⟨v, u, w, rfl, h _ H1 A1 x1 s1 ((((hE.mono x1 hS.noTup).set i w0).set j w1).set l w2)⟩
      | [], h, _ => exact h.elim
      | [_], h, _ => exact h.elim
      | [_, _], h, _ => exact h.elim
      | _ :: _ :: _ :: _ :: _, h, _ => exact h.elim
theorem s_ite {c : Expr} {a b : List Stmt} {c' : E} {a' b' : Cs} (hc : PT X c (tT X.K fx W c')) (ha : PSs X a (tSs X.K fx W a')) (hb : PSs X b (tSs X.K fx W b')) : PS X (.If c a b pos) (tS X.K fx W (.ite c' a' b')) :=
  PS.imp (ps_if hc ha hb) fun Z σ H ⟨env, A, S, hE, hS, h⟩ => by
    have h : RSt X.K W A H (RS.of (evE fx c' env S) env fun x S => match truth S x with
      | some b => cond b (evCs fx a' env S) (evCs fx b' env S)
      | none => .bad) Z := by
      unfold evC at h
      have e : (fun (x : D) (S : Store) => match truth S x with
          | some true => evCs fx a' env S
          | some false => evCs fx b' env S
          | none => .bad) = fun x S => match truth S x with
          | some b => cond b (evCs fx a' env S) (evCs fx b' env S)
          | none => .bad := by
        funext x S
        cases truth S x with
        | none => rfl
        | some b => cases b <;> rfl
      rw [← e]
      exact h
    refine ⟨env, A, S, hE, hS, RT.imp (RSt.ofT (f := fun b S => cond b (evCs fx a' env S) (evCs fx b' env S)) h hE hS) fun k H1 ⟨A1, S1, x1, s1, h1⟩ => ?_⟩
    cases k with
    | true =>
      rw [if_pos rfl]
      exact ⟨env, A1, S1, hE.mono x1 hS.noTup, s1, h1⟩
    | false =>
      rw [if_neg Bool.false_ne_true]
      exact ⟨env, A1, S1, hE.mono x1 hS.noTup, s1, h1⟩
theorem s_ras {x : Str} {as : List Expr} {p pos2 : Pos} (hc : X.calm = true) (tk : Takes X W) (hm : PMk X (.Call (.Name x p) as [] pos2) (fun _ H Q => Q (.ref (He.ga X.K x)) none H)) :
    PS X (.Raise (some (.Call (.Name x p) as [] pos2)) none pos) (tS X.K fx W (.ras x)) :=
  PS.imp (ps_raise hc tk hm) fun Z σ H ⟨env, A, S, hE, hS, h⟩ => by
    unfold evC at h
    exact EndR.here h hS hE
/-- of a loop's body -/
theorem body_ends {K : PySem.W.Frag} {A : Ads} {H : Hp} {Z : Ends} {r : RS} {g : Nv → Store → RS} (h : RSt K W A H (match r with
      | .ok (.nx e) S2 => g e S2
      | .ok (.ct e) S2 => g e S2
      | .ok (.bk e) S2 => .ok (.nx e) S2
      | r => r) Z) {N : L2.St → Hp → Prop} (hN : ∀ e S2 σ' H' A', Ext A H A' H' → SR K H' A' S2 → EnvR K H' A' e σ' → RSt K W A' H' (g e S2) Z → N σ' H') : RSt K W A H r { Z with nx := N, ct := N, bk := Z.nx } := by
  cases r with
  | ok f S2 =>
    cases f with
    | nx e => exact fun σ' H' A' x s e' => hN e S2 σ' H' A' x s e' (RSt.mono (r := g e S2) h x)
    | ct e => exact fun σ' H' A' x s e' => hN e S2 σ' H' A' x s e' (RSt.mono (r := g e S2) h x)
    | bk e => exact h
    | rt d => exact h
  | exc c e S2 => exact h
  | bad => exact h
theorem s_whl {c : Expr} {body : List Stmt} {c' : E} {b' : Cs} (hp : PassesOwn (model X.prog X.w) X.A X.env X.xe) (hc : PT X c (tT X.K fx W c')) (hb : PSs X body (tSs X.K fx W b')) : PS X (.While c body [] pos) (tS X.K fx W (.whl c' b')) :=
  PS.imp (ps_while hp hc hb) fun Z σ H ⟨env, A, S, hE, hS, h⟩ => by
    unfold evC at h
    refine ⟨fun m σ H => ∃ env A S, EnvR X.K H A env σ ∧ SR X.K H A S ∧ RSt X.K W A H (whlL fx c' (fun e S => evCs fx b' e S) m env S) Z, ⟨WHL, env, A, S, hE, hS, h⟩, ?_⟩
    rintro m σ H ⟨env, A, S, hE, hS, h⟩
    cases m with
    | zero => unfold whlL at h; exact h.elim
    | succ m =>
      have h : RSt X.K W A H (RS.of (evE fx c' env S) env fun x S => match truth S x with
        | some b => cond b (match evCs fx b' env S with
          | .ok (.nx e) S2 => whlL fx c' (fun e S => evCs fx b' e S) m e S2
          | .ok (.ct e) S2 => whlL fx c' (fun e S => evCs fx b' e S) m e S2
          | .ok (.bk e) S2 => .ok (.nx e) S2
          | r => r) (.ok (.nx env) S)
        | none => .bad) Z := by
        unfold whlL at h
        have e : (fun (x : D) (S : Store) => match truth S x with
            | some true => (match evCs fx b' env S with
              | .ok (.nx e) S2 => whlL fx c' (fun e S => evCs fx b' e S) m e S2
              | .ok (.ct e) S2 => whlL fx c' (fun e S => evCs fx b' e S) m e S2
              | .ok (.bk e) S2 => RS.ok (.nx e) S2
              | r => r)
            | some false => .ok (.nx env) S
            | none => .bad) = fun x S => match truth S x with
            | some b => cond b (match evCs fx b' env S with
              | .ok (.nx e) S2 => whlL fx c' (fun e S => evCs fx b' e S) m e S2
              | .ok (.ct e) S2 => whlL fx c' (fun e S => evCs fx b' e S) m e S2
              | .ok (.bk e) S2 => RS.ok (.nx e) S2
              | r => r) (.ok (.nx env) S)
            | none => .bad := by
          funext x S
          cases truth S x with
          | none => rfl
          | some b => cases b <;> rfl
        rw [← e]
        exact h
      refine ⟨env, A, S, hE, hS, RT.imp (RSt.ofT (f := fun b S => cond b (match evCs fx b' env S with
          | .ok (.nx e) S2 => whlL fx c' (fun e S => evCs fx b' e S) m e S2
          | .ok (.ct e) S2 => whlL fx c' (fun e S => evCs fx b' e S) m e S2
          | .ok (.bk e) S2 => .ok (.nx e) S2
          | r => r) (.ok (.nx env) S)) h hE hS) fun k H1 ⟨A1, S1, x1, s1, h1⟩ => ?_⟩
      have hE1 := hE.mono x1 hS.noTup
      cases k with
      | true =>
        rw [if_pos rfl]
        refine ⟨fun σ H => ∃ env A S, EnvR X.K H A env σ ∧ SR X.K H A S ∧ RSt X.K W A H (whlL fx c' (fun e S => evCs fx b' e S) m env S) Z, fun σ' H' q => ⟨m, Nat.lt_succ_self m, q⟩, env, A1, S1, hE1, s1, ?_⟩
        exact body_ends h1 fun e S2 σ' H' A' x s e' q => ⟨e, A', S2, e', s, q⟩
      | false =>
        rw [if_neg Bool.false_ne_true]
        exact EndR.here h1 s1 hE1
theorem s_for {tg iter : Expr} {body : List Stmt} {t : Tg} {it : Rs.It} {b' : Cs} (hp : PassesOwn (model X.prog X.w) X.A X.env X.xe) (hc : X.calm = true) (hi : PI X tg iter (tI X.K fx W it)) (hg : PG X tg (tG X.K fx W t)) (hb : PSs X body (tSs X.K fx W b')) (hs : ∀ x, foldedSetIterable iter X.env x = pure x) :
    PS X (.For tg iter body [] pos) (tS X.K fx W (.fr t it b')) :=
  PS.imp (ps_for hp hc hi hg hb hs) fun Z σ H ⟨env, A, S, hE, hS, h⟩ => by
    unfold evC at h
    refine ⟨env, A, S, hE, hS, ?_⟩
    cases r : evIt fx it env S with
    | bad => rw [r] at h; exact h.elim
    | exc c S1 => rw [r] at h; exact fun A1 H1 x s => h σ H1 A1 x s (hE.mono x hS.noTup)
    | ok items S1 =>
      rw [r] at h
      have h : RSt X.K W A H (forL fx t (fun e S => evCs fx b' e S) items env S1) Z := h
      intro J H1 A1 x1 s1 y1
      refine ⟨fun i m σ H => m + i = items.length ∧ ∃ env A S, EnvR X.K H A env σ ∧ SR X.K H A S ∧ Ex A1 H1 A H ∧ RSt X.K W A H (forL fx t (fun e S => evCs fx b' e S) (items.drop i) env S) Z,
        ⟨items.length, rfl, env, A1, S1, hE.mono x1 hS.noTup, s1, Ex.refl A1 H1, RSt.mono h x1⟩, ?_⟩
      rintro i m σ H ⟨hm, env, A, S, hE, hS, x0, h⟩
      obtain ⟨yg, ys⟩ := y1 A H x0 hS.noTup
      by_cases hlt : i < items.length
      · rw [List.drop_eq_getElem_cons hlt] at h
        obtain ⟨go, yl⟩ := yg i items[i] (List.getElem?_eq_getElem hlt)
        refine .inr ⟨go, fun σ' H' => m - 1 + (i + 1) = items.length ∧ ∃ env A S, EnvR X.K H' A env σ' ∧ SR X.K H' A S ∧ Ex A1 H1 A H' ∧ RSt X.K W A H' (forL fx t (fun e S => evCs fx b' e S) (items.drop (i + 1)) env S) Z, fun σ' H' q => ⟨m - 1, by omega, q⟩, fun x H' hy => ?_⟩
        obtain ⟨hH, rd⟩ := yl x H' hy
        have x3 : Ext A H A H' ∧ SR X.K H' A S := by
          rcases hH with rfl | ⟨T', o, hT, rfl⟩
          · exact ⟨Ext.refl _ _, hS⟩
          · exact ⟨hS.extNew hT, hS.new hT⟩
        obtain ⟨x3, s3⟩ := x3
        have hE3 := hE.mono x3 hS.noTup
        refine ⟨env, A, S, items[i], hE3, s3, rd, ?_⟩
        unfold forL at h
        replace h := RSt.mono h x3
        cases r2 : bindT fx t items[i] env S with
        | bad => rw [r2] at h; exact h.elim
        | exc c S2 => rw [r2] at h; exact fun A2 H2 x s => h σ H2 A2 x s (hE3.mono x s3.noTup)
        | ok env1 S2 =>
          rw [r2] at h
          intro σ' H'' A' x4 s4 e4 _ _
          have h := RSt.mono (r := (match evCs fx b' env1 S2 with
            | .ok (.nx e) S2 => forL fx t (fun e S => evCs fx b' e S) (items.drop (i + 1)) e S2
            | .ok (.ct e) S2 => forL fx t (fun e S => evCs fx b' e S) (items.drop (i + 1)) e S2
            | .ok (.bk e) S2 => .ok (.nx e) S2
            | r => r)) h x4
          refine ⟨env1, A', S2, e4, s4, body_ends h fun e S5 σ5 H5 A5 x5 s5 e5 q => ⟨by omega, e, A5, S5, e5, s5, (x0.trans x3.toEx).trans (x4.toEx.trans x5.toEx), q⟩⟩
      · refine .inl ⟨ys i (by omega) (by omega), ?_⟩
        rw [List.drop_eq_nil_of_le (by omega)] at h
        unfold forL at h
        exact EndR.here h hS hE
end
end Rs
end

section
set_option Elab.async false
set_option linter.all false
set_option maxRecDepth 100000
set_option maxHeartbeats 1000000
set_option autoImplicit false
/-! RsSnd5: lists of ranges, places that are set, comprehensions stored at once. Own work over HandS. -/
namespace Rs
open PySem PySem.Spec PyProof.Rows L2
section
variable {X : Cx} {fx : Fx} {W : WX} {pos : Pos}
theorem rps_rg {K : PySem.W.Frag} {H : Hp} {A : Ads} (a b : Int) : Rps K H A (rangeI a b) (rgV a b) := by
  unfold rangeI rgV
  generalize List.range (b - a).toNat = l
  induction l with
  | nil => exact Rps.nil
  | cons n l ih => exact Rps.cons rp_int ih
/-- the bounds of a range, by the arguments' values -/
def RgQ (K : PySem.W.Frag) (A : Ads) (H : Hp) (S : Store) (a b : Int) (H1 : Hp) (A1 : Ads) : Prop := Ext A H A1 H1 ∧ SR K H1 A1 S
theorem rg_1 {K : PySem.W.Frag} {σ : L2.St} {env : Nv} {A : Ads} {S : Store} {H : Hp} {a' : E} {f : List D → Store → R D} {Q : VK} {Q2 : Int → Int → Hp → Prop} (hE : EnvR K H A env σ) (hS : SR K H A S) (h : RP K W σ A H ((evEs fx (.cons a' .nil) env S).bind f) Q)
    (k : ∀ d S1 A1 H1, Ext A H A1 H1 → SR K H1 A1 S1 → RP K W σ A1 H1 (f [d] S1) Q → ∃ i, d = .int i ∧ Q2 0 i H1) : tRg1 (tE K fx W a') σ H Q2 := by
  refine ⟨env, A, S, hE, hS, ?_⟩
  unfold evEs at h
  cases r : evE fx a' env S with
  | bad => rw [r] at h; exact h.elim
  | exc c S1 => rw [r] at h; exact h
  | ok d S1 =>
    rw [r] at h
    have h : RP K W σ A H (f [d] S1) Q := by
      unfold evEs at h
      exact h
    intro v H1 A1 x1 s1 r1
    obtain ⟨i, rfl, q⟩ := k d S1 A1 H1 x1 s1 (RP.mono h x1)
    exact ⟨i, r1.int, q⟩
theorem rg_2 {K : PySem.W.Frag} {σ : L2.St} {env : Nv} {A : Ads} {S : Store} {H : Hp} {a' b' : E} {f : List D → Store → R D} {Q : VK} {Q2 : Int → Int → Hp → Prop} (hE : EnvR K H A env σ) (hS : SR K H A S) (h : RP K W σ A H ((evEs fx (.cons a' (.cons b' .nil)) env S).bind f) Q)
    (k : ∀ d e S1 A1 H1, Ext A H A1 H1 → SR K H1 A1 S1 → RP K W σ A1 H1 (f [d, e] S1) Q → ∃ i j, d = .int i ∧ e = .int j ∧ Q2 i j H1) : tRg2 (tE K fx W a') (tE K fx W b') σ H Q2 := by
  refine ⟨env, A, S, hE, hS, ?_⟩
  unfold evEs at h
  cases r : evE fx a' env S with
  | bad => rw [r] at h; exact h.elim
  | exc c S1 => rw [r] at h; exact h
  | ok d S1 =>
    rw [r] at h
    intro v H1 A1 x1 s1 r1
    refine ⟨env, A1, S1, hE.mono x1 hS.noTup, s1, ?_⟩
    unfold evEs at h
    cases r2 : evE fx b' env S1 with
    | bad => simp only [r2, R.bind] at h; exact h.elim
    | exc c S2 => simp only [r2, R.bind] at h; exact Exo.mono h x1
    | ok e S2 =>
      simp only [r2, R.bind, evEs] at h
      intro u H2 A2 x2 s2 r2'
      obtain ⟨i, j, rfl, rfl, q⟩ := k d e S2 A2 H2 (x1.trans x2) s2 (RP.mono h (x1.trans x2))
      exact ⟨i, j, r1.int, r2'.int, q⟩
theorem rgok {i j : Int} (h1 : -1000000 ≤ i) (h2 : i ≤ 1000000) (h3 : -1000000 ≤ j) (h4 : j ≤ 1000000) : RgOk i j := ⟨by omega, by omega, by omega, by omega, by omega⟩
/-- what rngD gives of one, of two -/
theorem rng1_inv {d : D} {xs : List D} (h : rngD [d] = some xs) : ∃ j, d = .int j ∧ -1000000 ≤ j ∧ j ≤ 1000000 ∧ xs = rangeI 0 j := by
  cases d <;> first | (unfold rngD at h; cases h; done) | skip
  rename_i j
  unfold rngD at h
  simp only [] at h
  split at h
  · rename_i hj
    rw [Bool.and_eq_true, decide_eq_true_eq, decide_eq_true_eq] at hj
    cases h
    exact ⟨j, rfl, hj.1, hj.2, rfl⟩
  · cases h
theorem rng2_inv {d e : D} {xs : List D} (h : rngD [d, e] = some xs) : ∃ i j, d = .int i ∧ e = .int j ∧ -1000000 ≤ i ∧ i ≤ 1000000 ∧ -1000000 ≤ j ∧ j ≤ 1000000 ∧ xs = rangeI i j := by
  cases d <;> first | (unfold rngD at h; cases h; done) | skip
  cases e <;> first | (unfold rngD at h; cases h; done) | skip
  rename_i i j
  unfold rngD at h
  simp only [] at h
  split at h
  · rename_i hj
    rw [Bool.and_eq_true, Bool.and_eq_true, Bool.and_eq_true, decide_eq_true_eq, decide_eq_true_eq, decide_eq_true_eq, decide_eq_true_eq] at hj
    cases h
    exact ⟨i, j, rfl, rfl, hj.1.1.1, hj.1.1.2, hj.1.2, hj.2, rfl⟩
  · cases h
theorem r_lrg {e : Expr} {p : Pos} {te : L2.St → Hp → (Int → Int → Hp → Prop) → Prop} {as : Es} (hc : X.calm = true) (hg : Gl X "list") (hm : X.mg "list" = none) (he : PRg X e te) (na : starEach [e] X.env = (false, eval e X.env) :: starEach [] X.env)
    (k : ∀ (σ : L2.St) (H : Hp) (Q2 : Int → Int → Hp → Prop) (Q : VK) (env : Nv) (A : Ads) (S : Store), EnvR X.K H A env σ → SR X.K H A S → RP X.K W σ A H ((evEs fx as env S).bind fun ds S => match rngD ds with
      | some xs => .ok (.lst xs) S
      | none => .bad) Q → (∀ i j S1 A1 H1, Ext A H A1 H1 → SR X.K H1 A1 S1 → -1000000 ≤ i → i ≤ 1000000 → -1000000 ≤ j → j ≤ 1000000 → Out X.K A1 H1 S1 (.lst (rangeI i j)) Q → Q2 i j H1) → te σ H Q2) :
    PE X (.Call (.Name "list" p) [e] [] pos) (tE X.K fx W (.rng true as)) :=
  PE.imp (pe_listRg hc hg hm he na) fun σ H Q ⟨env, A, S, hE, hS, h⟩ => by
    unfold evE at h
    refine k σ H _ Q env A S hE hS h fun i j S1 A1 H1 x1 s1 h1 h2 h3 h4 q => ⟨rgok h1 h2 h3 h4, fun p hp => q.lstN s1 (rps_rg i j) hp⟩
theorem r_trg {e : Expr} {p : Pos} {te : L2.St → Hp → (Int → Int → Hp → Prop) → Prop} {as : Es} (hc : X.calm = true) (hg : Gl X "tuple") (hm : X.mg "tuple" = none) (he : PRg X e te) (na : starEach [e] X.env = (false, eval e X.env) :: starEach [] X.env)
    (k : ∀ (σ : L2.St) (H : Hp) (Q2 : Int → Int → Hp → Prop) (Q : VK) (env : Nv) (A : Ads) (S : Store), EnvR X.K H A env σ → SR X.K H A S → RP X.K W σ A H ((evEs fx as env S).bind fun ds S => match rngD ds with
      | some xs => .ok (.tup xs) S
      | none => .bad) Q → (∀ i j S1 A1 H1, Ext A H A1 H1 → SR X.K H1 A1 S1 → -1000000 ≤ i → i ≤ 1000000 → -1000000 ≤ j → j ≤ 1000000 → Out X.K A1 H1 S1 (.tup (rangeI i j)) Q → Q2 i j H1) → te σ H Q2) :
    PE X (.Call (.Name "tuple" p) [e] [] pos) (tE X.K fx W (.rng false as)) :=
  PE.imp (pe_tupRg hc hg hm he na) fun σ H Q ⟨env, A, S, hE, hS, h⟩ => by
    unfold evE at h
    refine k σ H _ Q env A S hE hS h fun i j S1 A1 H1 x1 s1 h1 h2 h3 h4 q => ⟨rgok h1 h2 h3 h4, fun p hp => q.tupN s1 (rps_rg i j) hp⟩
/-- the range's own expression, with its arguments -/
inductive RgE (X : Cx) (fx : Fx) (W : WX) : Expr → Es → Prop
  | one {a : Expr} {a' : E} {p pos : Pos} (ha : PE X a (tE X.K fx W a')) (na : starEach [a] X.env = (false, eval a X.env) :: starEach [] X.env) : RgE X fx W (.Call (.Name "range" p) [a] [] pos) (.cons a' .nil)
  | two {a b : Expr} {a' b' : E} {p pos : Pos} (ha : PE X a (tE X.K fx W a')) (hb : PE X b (tE X.K fx W b')) (na : starEach [a, b] X.env = (false, eval a X.env) :: starEach [b] X.env) (nb : starEach [b] X.env = (false, eval b X.env) :: starEach [] X.env)
      (hp : (backTo pos (starEach [b] X.env)).any (·.1) = false) : RgE X fx W (.Call (.Name "range" p) [a, b] [] pos) (.cons a' (.cons b' .nil))
theorem out_of {K : PySem.W.Frag} {σ : L2.St} {A : Ads} {H : Hp} {S : Store} {Q : VK} {o : Option (List D)} {c : List D → D} (h : RP K W σ A H (match o with
    | some xs => .ok (c xs) S
    | none => .bad) Q) : ∃ xs, o = some xs ∧ Out K A H S (c xs) Q := by
  cases o with
  | none => exact h.elim
  | some xs => exact ⟨xs, rfl, h⟩
theorem r_rngL {e : Expr} {p : Pos} {as : Es} (hc : X.calm = true) (hg : Gl X "list") (hm : X.mg "list" = none) (hgr : Gl X "range") (hmr : X.mg "range" = none) (h : RgE X fx W e as) (na : starEach [e] X.env = (false, eval e X.env) :: starEach [] X.env) :
    PE X (.Call (.Name "list" p) [e] [] pos) (tE X.K fx W (.rng true as)) := by
  cases h with
  | one ha n1 =>
    refine r_lrg hc hg hm (prg_1 hgr hmr ha n1) na fun σ H Q2 Q env A S hE hS h k => rg_1 hE hS h fun d S1 A1 H1 x1 s1 q => ?_
    obtain ⟨xs, e1, ho⟩ := out_of (c := .lst) q
    obtain ⟨j, rfl, h1, h2, rfl⟩ := rng1_inv e1
    exact ⟨j, rfl, k 0 j S1 A1 H1 x1 s1 (by decide) (by decide) h1 h2 ho⟩
  | two ha hb n1 n2 hp =>
    refine r_lrg hc hg hm (prg_2 hgr hmr ha hb n1 n2 hp) na fun σ H Q2 Q env A S hE hS h k => rg_2 hE hS h fun d e S1 A1 H1 x1 s1 q => ?_
    obtain ⟨xs, e1, ho⟩ := out_of (c := .lst) q
    obtain ⟨i, j, rfl, rfl, h1, h2, h3, h4, rfl⟩ := rng2_inv e1
    exact ⟨i, j, rfl, rfl, k i j S1 A1 H1 x1 s1 h1 h2 h3 h4 ho⟩
theorem r_rngT {e : Expr} {p : Pos} {as : Es} (hc : X.calm = true) (hg : Gl X "tuple") (hm : X.mg "tuple" = none) (hgr : Gl X "range") (hmr : X.mg "range" = none) (h : RgE X fx W e as) (na : starEach [e] X.env = (false, eval e X.env) :: starEach [] X.env) :
    PE X (.Call (.Name "tuple" p) [e] [] pos) (tE X.K fx W (.rng false as)) := by
  cases h with
  | one ha n1 =>
    refine r_trg hc hg hm (prg_1 hgr hmr ha n1) na fun σ H Q2 Q env A S hE hS h k => rg_1 hE hS h fun d S1 A1 H1 x1 s1 q => ?_
    obtain ⟨xs, e1, ho⟩ := out_of (c := .tup) q
    obtain ⟨j, rfl, h1, h2, rfl⟩ := rng1_inv e1
    exact ⟨j, rfl, k 0 j S1 A1 H1 x1 s1 (by decide) (by decide) h1 h2 ho⟩
  | two ha hb n1 n2 hp =>
    refine r_trg hc hg hm (prg_2 hgr hmr ha hb n1 n2 hp) na fun σ H Q2 Q env A S hE hS h k => rg_2 hE hS h fun d e S1 A1 H1 x1 s1 q => ?_
    obtain ⟨xs, e1, ho⟩ := out_of (c := .tup) q
    obtain ⟨i, j, rfl, rfl, h1, h2, h3, h4, rfl⟩ := rng2_inv e1
    exact ⟨i, j, rfl, rfl, k i j S1 A1 H1 x1 s1 h1 h2 h3 h4 ho⟩

/-! ### a place of a list is set -/
theorem rg_bind {K : PySem.W.Frag} {σ : L2.St} {A : Ads} {H : Hp} {vs : List Nat} {r : R D} {f : D → Store → R Nv} {Q : L2.St → Hp → Prop} (h : RG K W σ A H vs (r.bind f) Q) :
    RP K W σ A H r fun v H1 => ∃ A1 S1 d, Ext A H A1 H1 ∧ SR K H1 A1 S1 ∧ Rp K H1 A1 d v ∧ RG K W σ A1 H1 vs (f d S1) Q := by
  cases r with
  | bad => exact h
  | exc c S1 => exact h
  | ok d S1 =>
    intro v H1 A1 x s r
    refine ⟨A1, S1, d, x, s, r, ?_⟩
    have h : RG K W σ A H vs (f d S1) Q := h
    cases e : f d S1 with
    | bad => rw [e] at h; exact h
    | exc c S2 => rw [e] at h; exact Exo.mono h x
    | ok env1 S2 => rw [e] at h; exact fun σ' H2 A2 y => h σ' H2 A2 (x.trans y)
theorem r_gsub {o i : Expr} {o' i' : E} (ho : PE X o (tE X.K fx W o')) (hi : PE X i (tE X.K fx W i'))
    (ha : ∀ v, assign (.Subscript o i pos) X.env v = (do
      let ov ← holding [v] (eval o X.env)
      let iv ← holding [v, ov] (eval i X.env)
      standAt pos
      holding [v, ov, iv] (setItem ov iv v)
      release [v, ov, iv] [])) : PG X (.Subscript o i pos) (tG X.K fx W (.sub o' i')) :=
  PG.imp (pg_sub ho hi set_list ha) fun x σ H Q ⟨env, A, S, d, hE, hS, hd, h⟩ => by
    unfold bindT at h
    refine ⟨env, A, S, hE, hS, RP.imp (rg_bind h) fun u H1 ⟨A1, S1, d1, x1, s1, r1, h1⟩ => ?_⟩
    have hE1 := hE.mono x1 hS.noTup
    refine ⟨env, A1, S1, hE1, s1, RP.imp (rg_bind h1) fun w H2 ⟨A2, S2, d2, x2, s2, r2, h2⟩ => ?_⟩
    split at h2
    · split at h2
      · rename_i xs eS
        split at h2
        · rename_i j
          split at h2
          · rename_i n en
            have q1 := r1.mono x2 s1.noTup
            obtain ⟨l, b, hl, rfl⟩ := q1.ref
            obtain ⟨l', hl', hc⟩ := s2.get eS rfl
            rw [hl] at hl'
            cases hl'
            obtain ⟨vs, hH, hv⟩ := hc
            have x3 : Ext A2 H2 A2 (upd H2 l (.lst (vs.set n x))) := s2.extUpd hl
            have hd2 := (hd.mono x1 hS.noTup).mono x2 s1.noTup
            refine ⟨l, vs, j, n, rfl, r2.int, hH, by rw [← hv.length]; exact en, ?_⟩
            exact h2 σ _ A2 x3 (s2.set hl rfl ⟨_, upd_same, (hv.set hd2 n).mono x3 s2.noTup⟩) ((hE1.mono x2 s1.noTup).mono x3 s2.noTup) rfl fun _ _ => rfl
          · exact h2.elim
        · exact h2.elim
      · exact h2.elim
    · exact h2.elim

/-! ### a comprehension that is stored at once -/
theorem s_setLc {i : Nat} {y : Str} {py spos : Pos} {elt tg iter : Expr} {ifs : List Expr} {gs : List Comprehension} {scope : Scope} {own : List (Str × Nat)} {t' : Tg} {it' : Rs.It} {c' : Es} {g' : Gs} {elt' : E}
    (hc : X.calm = true) (hN : X.N.Nodup) (hy : X.N[i]? = some y) (hyl : X.env.scope.names.lookup y = some .local) (hsw : swapsWith (.ListComp elt (allG tg iter ifs gs) scope pos) (some (.Name y py)) spos.line X.env = pure true)
    (hi : PI X tg iter (tI X.K fx W it')) (ok : BlkOk X.N X.env.scope scope own) (hb : BlkR X fx elt tg iter ifs gs scope pos elt' t' c' g') (hsl : ∀ j, j ∈ slT t' ++ slG g' → j ∈ own.map (·.2)) (hs : ∀ x, foldedSetIterable iter X.env x = pure x) :
    PS X (.Assign [.Name y py] (.ListComp elt (allG tg iter ifs gs) scope pos) spos) (fun Z σ H => tFr X.K fx W (.lc (own.map (·.2)) elt' t' it' c' g') σ H fun x H1 => Z.nx (σ.set i (some x)) H1) := by
  refine ⟨fun pins s σ H D I h => ?_⟩
  rw [exec_Assign_Name_used _ _ _ _ hsw]
  refine wpAny_bind (wpAny_standAt (wpAny_bind ?_))
  show wpAny _ X.A (do let _ ← comprehension (.ListComp elt (allG tg iter ifs gs) scope pos) scope X.env (firstIterPos (allG tg iter ifs gs) pos) (newList []) false (eval iter X.env) (some (assign (.Name y py) X.env))) _ _ s
  refine wpAny_bind (thn (lcN_core (Qf := fun _ s' => SP X pins D .next s') hc hN I hi ok hb hsl hs h fun L C s' m H' I' q hn f => ?_) fun _ s' hq => wpAny_pure (wpAny_pure hq))
  show wpAny _ _ (assign (.Name y py) X.env (.ref L)) _ _ _
  refine wpAny_assign_Name (store_ok2 (v := V.ref L) I' hN hy (.inl hyl) rfl (fun s2 I2 ⟨a, sb, ha⟩ => ?_) (.inr hyl))
  obtain ⟨f0, f1, f2, f3, f4, f5⟩ := f
  have haC : C ≠ a := ha.elim (fun z => by rw [z]; exact f1) fun z e => f4 y a z e.symm
  exact ⟨m, hn.sameBut sb haC, fun h3 sb3 => ⟨_, H', I2.turned (t' := s2.toks) (fun b o hb e => (sb3.2 b hb).trans e) f0 f1 f3 f4 f5, q⟩⟩
theorem s_setF {i : Nat} {e' : E} {st : Stmt} (h : PS X st (fun Z σ H => tFr X.K fx W e' σ H fun x H1 => Z.nx (σ.set i (some x)) H1)) (hl : GivesL fx e') : PS X st (tS X.K fx W (.asg (.nm i) e')) :=
  PS.imp h fun Z σ H ⟨env, A, S, hE, hS, h⟩ => by
    unfold evC at h
    refine ⟨env, A, S, hE, hS, ?_⟩
    cases r : evE fx e' env S with
    | bad => rw [r] at h; exact h.elim
    | exc c S1 => rw [r] at h; exact fun A1 H1 x s => h σ H1 A1 x s (hE.mono x hS.noTup)
    | ok d S1 =>
      rw [r] at h
      obtain ⟨ds, rfl⟩ := hl _ _ _ _ r
      intro H1 A1 vs p x1 s1 r1 hp
      have h : RSt X.K W A H (match bindT fx (.nm i) (.lst ds) env S1 with
        | .ok env1 S1 => .ok (.nx env1) S1
        | .exc c S1 => .exc c env S1
        | .bad => .bad) Z := h
      unfold bindT at h
      have x2 : Ext A1 H1 A1 (upd H1 p (.lst vs)) := s1.extNew hp
      have np : ¬ A1.live p := fun z => s1.live z hp
      exact h _ _ A1 (x1.trans x2) (s1.new hp) (((hE.mono x1 hS.noTup).mono x2 s1.noTup).set i (by unfold Rp; exact ⟨p, vs, rfl, upd_same, np, r1.mono x2 s1.noTup⟩))
theorem s_setM {i : Nat} {e' : E} {st : Stmt} (h : PS X st (fun Z σ H => tFr X.K fx W e' σ H fun x H1 => Z.nx (σ.set i (some x)) H1)) (hl : GivesL fx e') : PS X st (tS X.K fx W (.asg (.nm i) (.mut e'))) :=
  PS.imp h fun Z σ H ⟨env, A, S, hE, hS, h⟩ => by
    unfold evC at h
    refine ⟨env, A, S, hE, hS, ?_⟩
    unfold evE at h
    cases r : evE fx e' env S with
    | bad => rw [r] at h; exact h.elim
    | exc c S1 => rw [r] at h; exact fun A1 H1 x s => h σ H1 A1 x s (hE.mono x hS.noTup)
    | ok d S1 =>
      rw [r] at h
      obtain ⟨ds, rfl⟩ := hl _ _ _ _ r
      intro H1 A1 vs p x1 s1 r1 hp
      have h : RSt X.K W A H (match bindT fx (.nm i) (.ref S1.length) env (S1 ++ [.lst ds]) with
        | .ok env1 S1 => .ok (.nx env1) S1
        | .exc c S1 => .exc c env S1
        | .bad => .bad) Z := h
      unfold bindT at h
      have x2 : Ext A1 H1 (A1.add p) (upd H1 p (.lst vs)) := ext_cell hp (s1.notO hp)
      refine h _ _ (A1.add p) (x1.trans x2) (s1.push hp rfl ⟨vs, upd_same, r1.mono x2 s1.noTup⟩) (((hE.mono x1 hS.noTup).mono x2 s1.noTup).set i ?_)
      unfold Rp
      refine ⟨p, true, ?_, rfl⟩
      show (A1.c ++ [(p, true)])[S1.length]? = _
      rw [← s1.len]
      simp
end
end Rs
end

section
set_option Elab.async false
set_option linter.all false
set_option maxRecDepth 100000
set_option maxHeartbeats 3200000
set_option autoImplicit false
/-! RsSet: how many different tuples of whole numbers stand in a tuple. Own work over HandS; the set's making follows HandS.SetFor and HandS.TupSets. -/
namespace Rs
open PySem PySem.Spec PyProof.Rows L2

/-! ### counting -/
def dz : List (List Int) → Nat
  | [] => 0
  | z :: r => if z ∈ r then dz r else dz r + 1
theorem dz_of : ∀ (zs M : List (List Int)), M.Nodup → (∀ z ∈ M, z ∈ zs) → (∀ z ∈ zs, z ∈ M) → M.length = dz zs
  | [], M, _, h1, _ => by
    cases M with
    | nil => rfl
    | cons m r => exact absurd (h1 m List.mem_cons_self) (by simp)
  | z :: r, M, nd, h1, h2 => by
    unfold dz
    by_cases hz : z ∈ r
    · rw [if_pos hz]
      refine dz_of r M nd (fun y hy => ?_) fun y hy => h2 y (List.mem_cons_of_mem _ hy)
      rcases List.mem_cons.mp (h1 y hy) with e | e
      · rw [e]; exact hz
      · exact e
    · rw [if_neg hz]
      have hm : z ∈ M := h2 z List.mem_cons_self
      have ih := dz_of r (M.erase z) (nd.erase z) (fun y hy => ?_) (fun y hy => ?_)
      · rw [List.length_erase_of_mem hm] at ih
        have := List.length_pos_of_mem hm
        omega
      · have hy2 := (nd.mem_erase_iff).mp hy
        rcases List.mem_cons.mp (h1 y hy2.2) with e | e
        · exact absurd e hy2.1
        · exact e
      · exact (nd.mem_erase_iff).mpr ⟨fun e => hz (by rw [← e]; exact hy), h2 y (List.mem_cons_of_mem _ hy)⟩
theorem eqvs_ints : ∀ a b : List Int, eqvs (a.map .int) (b.map .int) = decide (a = b)
  | [], [] => rfl
  | [], _ :: _ => rfl
  | _ :: _, [] => rfl
  | x :: a, y :: b => by
    show (eqv (.int x) (.int y) && eqvs (a.map .int) (b.map .int)) = _
    rw [eqvs_ints a b]
    unfold eqv
    by_cases h1 : x = y
    · by_cases h2 : a = b <;> simp [h1, h2]
    · simp [h1]
theorem anyEq_ints (z : List Int) : ∀ zs : List (List Int), anyEq (.tup (z.map .int)) (zs.map fun k => .tup (k.map .int)) = decide (z ∈ zs)
  | [] => by simp [anyEq]
  | y :: r => by
    have ih := anyEq_ints z r
    unfold anyEq at ih ⊢
    rw [List.map_cons, List.any_cons, ih]
    have e : eqv (.tup (y.map .int)) (.tup (z.map .int)) = decide (y = z) := by
      rw [← eqvs_ints y z]
      unfold eqv
      rfl
    rw [e]
    by_cases h1 : y = z
    · simp [h1]
    · by_cases h2 : z ∈ r
      · simp [h2]
      · simp [h1, h2]; exact fun q => h1 q.symm
theorem distinct_ints : ∀ zs : List (List Int), distinct (zs.map fun k => .tup (k.map .int)) = dz zs
  | [] => rfl
  | z :: r => by
    rw [List.map_cons]
    unfold distinct dz
    rw [anyEq_ints, distinct_ints r]
    by_cases h : z ∈ r
    · rw [if_pos h, if_pos (decide_eq_true h)]
    · rw [if_neg h, if_neg (by simpa using h)]

/-! ### set(t), t a tuple of tuples -/
abbrev emptyS (w : World) : Obj := { cls := .type "set", dict := none, data := .set #[] 0 (.fresh 0 0 (!w.params.followText "set-order")) }
section
variable {P : Program} {w : World} {A : Around} {E : Value → Shared → Prop} {s : Shared}
theorem set_of_tup {l : Addr} {items : Array Value} (ks : List (Addr × List Int)) {Q : Value → Shared → Prop} (hh : A.handled = none) (hl : s.heap.IsTuple l items) (hit : items.toList = ks.map fun p => Value.ref p.1) (hk : ∀ p ∈ ks, IsT P w s.heap p.2 p.1)
    (hfew : ks.length < 64) (hu : A.units + 3 < cLine) (h : ∀ (h' : Heap) (tk : Nat) L es ep t, SetTR P w h' s.heap.objs.size L es ep t → Got ks ks.length L → (∀ b o, s.heap.get? b = some o → h'.get? b = some o) → Q (.ref s.heap.objs.size) { s with heap := h', toks := tk }) :
    wpAny (model P w) A (call (.type "set") [.ref l]) Q E s := by
  have hisz : items.size = ks.length := by rw [← Array.length_toList, hit, List.length_map]
  obtain ⟨c, tl, hmro⟩ := F.called_set.mro
  have hmade := F.called_set.made
  have hsub := F.called_set.sub
  refine wpAny_call (codeAny_of_tree ?_)
  show wpAny _ _ (callAny (.type "set") _) _ _ _
  refine wpAny_pure ⟨Code.quiet_builtin _ (by decide +kernel), codeAny_builtin F.entry_type_call ?_⟩
  rw [Around.under_plain (weight_type_call_type "set" [.ref l] []) rfl]
  have h1 := F.called_set.notType
  have h2 := F.called_set.canCreate
  have hct := F.typeCall_set_1 (.ref l)
  repeat (any_goals (first | assumption | wp_step))
  generalize hp : s.heap.objs.size = p at h ⊢
  refine codeAny_mono (code_set_led1 (.ref l) (E := E) (Q₁ := fun obj s₁ => obj = .ref p ∧ s₁ = { s with heap := s.heap.push (emptyS w) }) ⟨by rw [hp], rfl⟩) fun r s₁ hr => ?_
  cases r with
  | error e => exact hr
  | ok fl =>
    cases fl with
    | ret obj =>
      obtain ⟨rfl, rfl⟩ := hr
      have hS : (s.heap.push (emptyS w)).get? p = some (emptyS w) := by rw [← hp]; exact Heap.get?_push_size _ rfl
      have hT : Shared.TypeIs { s with heap := s.heap.push (emptyS w) } (.ref p) "set" := ⟨_, hS, rfl⟩
      have hli := F.called_set.init.lookup
      have hbi := F.called_set.init.bind (.ref p)
      repeat (any_goals (first | assumption | wp_step))
      refine codeAny_mono (codeAny_call_builtin (R := wants (fun r s₂ => r = .none ∧ ∃ h' tk L es ep t, s₂ = { s with heap := h', toks := tk } ∧ SetTR P w h' p L es ep t ∧ Got ks ks.length L ∧ (∀ b o, s.heap.get? b = some o → h'.get? b = some o)) E) F.called_set.init.plain F.entry_set_init (check_set_init_1 hT ?_)) fun r₂ s₂ hr₂ => ?_
      · obtain ⟨ol, hol, hcl, nl, hdl⟩ := hl
        obtain ⟨ocls, odict, odata, oslots⟩ := ol
        simp only at hcl hdl
        subst hcl; subst hdl
        have hol' : (s.heap.push (emptyS w)).get? l = some { cls := .type "tuple", dict := odict, data := .seq items nl, slots := oslots } := Heap.get?_push_of_some _ hol
        have hsls := F.sub_tuple_set
        have hslf := F.sub_tuple_frozenset
        have hne : (Value.type "tuple" == Value.type "dict") = false := by decide
        have hl1 : (s.heap.push (emptyS w)).IsTuple l items := ⟨_, hol', rfl, nl, rfl⟩
        unfold Builtin.«set.__init__» noKeywords Builtin.Frozenset.updateFrom
        generalize hPI : pyIter = PI
        wp_walk
        subst hPI
        refine wpAny_pyIter_tuple hl1 (wpAny_bind (wpAny_runValue ?_))
        have hlS : l < s.heap.objs.size := Heap.lt_size hol
        have hh3 : A.in1.in1.in1.handled = none := by simp [hh]
        have hz1 : (s.heap.push (emptyS w)).objs.size = p + 1 := by rw [← hp]; exact Heap.size_push ..
        have hlp : l < p := by rw [← hp]; exact hlS
        have hneI : l ≠ (s.heap.push (emptyS w)).objs.size := by rw [hz1]; exact Nat.ne_of_lt (Nat.lt_succ_of_lt hlp)
        have hSf : p ∉ [(s.heap.push (emptyS w)).objs.size, l] := by
          rw [hz1]
          simp only [List.mem_cons, List.not_mem_nil, or_false, not_or]
          exact ⟨Nat.ne_of_lt (Nat.lt_succ_self p), Nat.ne_of_gt hlp⟩
        have hval : ∀ (i : Nat) (v : Value), items[i]? = some v → ∃ q, ks[i]? = some q ∧ v = .ref q.1 := fun i v hv => by
          have q : items.toList[i]? = some v := by rw [Array.getElem?_toList]; exact hv
          rw [hit, List.getElem?_map] at q
          obtain ⟨z, hz, e⟩ := Option.map_eq_some_iff.mp q
          exact ⟨z, hz, e.symm⟩
        have none_of : ∀ b, p ≤ b → s.heap.get? b = none := fun b hb => by
          cases q : s.heap.get? b with
          | none => rfl
          | some o => exact absurd (Nat.lt_of_lt_of_le (Heap.lt_size q) (by rw [hp]; exact hb)) (Nat.lt_irrefl _)
        refine set_update_tups ((Walks.tuple hh3 _ l hneI items).toS) p hSf ks hisz hfew hval s.heap hk (none_of _ (Nat.le_refl _)) (fun b hb => none_of b (by rw [List.mem_singleton.mp hb, hz1]; exact Nat.le_succ _)) hu (items.size - 0) 0 _ (by omega) (Nat.zero_le _)
          ⟨⟨_, Heap.get?_push_size _ rfl, rfl, rfl⟩, (hl1.push _)⟩ (fun b o e => Heap.get?_push_of_some _ (Heap.get?_push_of_some _ e)) ⟨[], #[], 0, _, setTR_fresh (Heap.get?_push_of_some _ hS), Got.zero ks⟩ ?_
        intro s' L es ep t hm hS' g' hkp
        obtain ⟨h', g2, d', tk', os'⟩ := s'
        have eg : g2 = s.gens := hm.gens
        have ed : d' = s.drawn := hm.drawn
        have eo : os' = s.os := hm.os
        subst eg; subst ed; subst eo
        rw [hisz] at g'
        show wpAny _ _ _ _ _ _
        refine wpAny_pure ?_
        show wpAny _ _ (ret Value.none) _ _ _
        exact wpAny_pure ⟨rfl, h', tk', L, es, ep, t, rfl, hS', g', hkp⟩
      · cases r₂ with
        | error e => exact hr₂
        | ok fl₂ =>
          cases fl₂ with
          | ret r =>
            obtain ⟨rfl, h', tk, L, es, ep, t, rfl, hS', g', hk'⟩ := hr₂
            repeat (any_goals (first | assumption | wp_step))
            exact h _ _ _ _ _ _ hS' g' hk'
          | _ => exact hr₂.elim
    | _ => exact hr.elim
end

/-! ### len(set(t)) -/
theorem keys_of {K : PySem.W.Frag} {H : Hp} {A : Ads} : ∀ {xs : List D} {vs : List V}, xs.all pairI = true → Rps K H A xs vs → ∃ ks : List (Addr × List Int), vs = ks.map (fun p => V.ref p.1) ∧ (∀ p ∈ ks, SqT K H p.1 (p.2.map V.int)) ∧ xs = (ks.map (·.2)).map fun k => D.tup (k.map .int)
  | [], vs, _, r => ⟨[], by unfold Rps at r; rw [r]; rfl, fun p hp => by simp at hp, rfl⟩
  | x :: xs, vs, h, r => by
    rw [List.all_cons, Bool.and_eq_true] at h
    obtain ⟨v, w, rfl, r1, r2⟩ := r.inv
    obtain ⟨ks, rfl, h2, rfl⟩ := keys_of h.2 r2
    have hx := h.1
    cases x <;> first | (exfalso; cases hx; done) | skip
    rename_i zs
    cases e : intsD zs with
    | none => unfold pairI at hx; simp only [e] at hx; cases hx
    | some ns =>
      have e2 := ints_of e
      subst e2
      obtain ⟨a, us, rfl, q, r⟩ := r1.tup
      have := rps_of_ints r
      subst this
      refine ⟨(a, ns) :: ks, rfl, fun p hp => ?_, rfl⟩
      rcases List.mem_cons.mp hp with rfl | hp
      · exact q
      · exact h2 p hp
section
variable {X : Cx} {fx : Fx} {W : WX} {pos : Pos}
theorem r_lenset {a : Expr} {as : Es} {p p2 q : Pos} (hc : X.calm = true) (hu : X.A.units + 65 < cLine) (hg : Gl X "len") (hm : X.mg "len" = none) (hg2 : Gl X "set") (hm2 : X.mg "set" = none) (ha : PA X [a] (tEs X.K fx W as)) (na : starEach [a] X.env = (false, eval a X.env) :: starEach [] X.env) :
    PE X (.Call (.Name "len" p) [.Call (.Name "set" p2) [a] [] q] [] pos) (tE X.K fx W (.blt .lenset as)) := by
  refine ⟨fun pins s σ H Q I ⟨env, A, S, hE, hS, h⟩ => ?_⟩
  unfold evE at h
  refine Call_ (ld_blt I hg hm PySem.boot_len ?_)
  refine PyProof.Rows.callWith_builtin1 (PyProof.Rows.args_cons (Call_ (ld_blt I hg2 hm2 boot_set ?_)) rfl) rfl rfl
  refine PyProof.Rows.callWith_type1 (thn (ha.run q pins s σ H _ I ⟨env, A, S, hE, hS, RPs.bind h⟩) fun us s1 ⟨vs, H1, I1, rv, A1, S1, ds, x1, sr1, rd, h1⟩ => ?_) na rfl
  obtain ⟨z, h2, h3⟩ := RP.of h1
  replace h2 : lensetD S1 ds = some z := h2
  unfold lensetD at h2
  split at h2
  · split at h2
    · rename_i d xs e1
      split at h2
      · rename_i hz
        cases h2
        rw [Bool.and_eq_true, decide_eq_true_eq] at hz
        have e2 := view_tup e1
        subst e2
        obtain ⟨v, rfl, rd2⟩ := rps1 rd
        obtain ⟨l, ws, rfl, hq, hr⟩ := rd2.tup
        obtain ⟨ks, rfl, hk, rfl⟩ := keys_of hz.2 hr
        rw [Vals.ref1 rv]
        obtain ⟨its, ri, pl, hzz⟩ := I1.tuple hq
        have hlen : ks.length < 60 := by simpa using hz.1
        refine set_of_tup (P := X.prog) (w := X.w) ks (I1.ok.hd hc) pl (by simpa using refs_of_vals ri) (fun p hp => I1.isT (hk p hp)) (by omega) (by omega) fun h' tk L es ep t R g k => PyProof.Rows.args_nil ?_
        have I2 : Inv X pins σ H1 { s1 with heap := h', toks := tk } := I1.kept k
        obtain ⟨o, ho, hex, hd⟩ := R.ob
        have hsz : es.size = L.length := SetTR.size (s := { s1 with heap := h', toks := tk }) R
        have hcount : L.length = distinct ((ks.map (·.2)).map fun k => D.tup (k.map .int)) := by
          rw [distinct_ints, ← dz_of (ks.map (·.2)) (L.map (·.2)) R.nd (fun z hz => ?_) (fun z hz => ?_), List.length_map]
          · obtain ⟨p, hp, rfl⟩ := List.mem_map.mp hz
            have := g.sub p hp
            rw [List.take_length] at this
            exact List.mem_map_of_mem this
          · obtain ⟨p, hp, rfl⟩ := List.mem_map.mp hz
            exact g.all p (by rw [List.take_length]; exact hp)
        have hfew := R.few
        refine call_len_set ho hex hd (SetTR.fits (s := { s1 with heap := h', toks := tk }) R) (by rw [hsz]; omega) ⟨.int (L.length : Nat), H1, I2.tok _, ⟨_, by rw [hsz]⟩, ?_⟩
        have := h3.here sr1 (rp_int (i := (distinct ((ks.map (·.2)).map fun k => D.tup (k.map .int)) : Nat)))
        rw [← hcount] at this
        exact this
      · cases h2
    · cases h2
  · cases h2
/-- X() -/
theorem pmk_own0 {C : Addr} {bmB : List Value} {B newId initId : String} {x : Str} {p pos : Pos} (F : ExcBaseFacts B newId initId bmB) (q : PySem.W.excIn X.K C bmB newId = true) (gC : X.mg x = some (.ref C)) (kC : PySem.W.keepIn X.K (.ref C) = true) (r : Raises X (.ref C)) (hg : Gl X x)
    (hdb : (x == ("__debug__" : Str)) = false) : PMk X (.Call (.Name x p) [] [] pos) (fun _ H Q => Q (.ref C) none H) := by
  intro pins s σ H Q I h
  refine wpAny_Call_Name_kw (ld_glob I hg gC ?_ hdb)
  refine PySem.W.callWith_K0 I.kIn kC ?_
  show wpAny _ _ (call (.ref C) []) _ _ _
  obtain ⟨bm, N, nm, qn, bs, hdct, sn, sub, ab, col, dd, k0, k1, k2, k3, k5, mN, hC, hN, hni, T⟩ := exc_obj I.kIn q
  exact wpAny_call_exc_subT F T hC hN hni (fun h' e hm => mk_of I hm r h (I.hok.gone hm.new)) (Nat.zero_le _)
end
end Rs
end

section
set_option Elab.async false
set_option linter.all false
set_option maxRecDepth 100000
set_option maxHeartbeats 2000000
set_option autoImplicit false
/-! RsChk: whether a term of the small language is a piece of text; where it is, the evaluator is right. Own work. -/
namespace Rs
open PySem PySem.Spec PyProof.Rows L2

/-- what a global name is -/
inductive GK where
  | blt
  | int (i : Int)
  | str (x : Str)
  | fn (i : Nat)
  | exc
/-- what the check knows: the names by slot, the scope, which names are the block's own -/
structure Sx where
  N : List Str
  sc : Scope
  fnb : Str → Bool
  G : Str → Option GK

/-! ### shapes -/
def noStar : Expr → Bool
  | .Starred .. => false
  | _ => true
def isPlainT : Expr → Bool
  | .UnaryOp .Not _ _ => false
  | .BoolOp .. => false
  | .IfExp .. => false
  | .Compare .. => false
  | _ => true
def noSlice : Expr → Bool
  | .Slice .. => false
  | _ => true
def plainBase : Expr → Bool
  | .Call .. => false
  | _ => true
def noSet : Expr → Bool
  | .Set .. => false
  | _ => true
def noComp : Expr → Bool
  | .ListComp .. => false
  | .SetComp .. => false
  | .DictComp .. => false
  | _ => true
def dbg : Str := "__debug__"
def cdc : Str := "__classdict__"
theorem starEach1 {e : Expr} (h : noStar e = true) (es : List Expr) (env : Env) : starEach (e :: es) env = (false, eval e env) :: starEach es env := by
  cases e <;> first | rfl | cases h
theorem backs : ∀ {es : List Expr}, es.all noStar = true → ∀ (pos : Pos) (env : Env), (backTo pos (starEach es env)).any (·.1) = false
  | [], _, _, _ => rfl
  | e :: es, h, pos, env => by
    rw [List.all_cons, Bool.and_eq_true] at h
    rw [starEach1 h.1]
    have ih := backs h.2 pos env
    unfold backTo at ih ⊢
    rw [List.map_cons, List.any_cons, ih]
    rfl
theorem backsAll : ∀ {es : List Expr}, es.all noStar = true → ∀ (pos : Pos) (env : Env), (backTo pos (starEach es env)).all (fun x => !x.1) = true
  | [], _, _, _ => rfl
  | e :: es, h, pos, env => by
    rw [List.all_cons, Bool.and_eq_true] at h
    rw [starEach1 h.1]
    have ih := backsAll h.2 pos env
    unfold backTo at ih ⊢
    rw [List.map_cons, List.all_cons, ih]
    rfl
theorem few_of {es : List Expr} (h : es.all noStar = true) (hl : es.length < 30) (pos : Pos) (env : Env) : ((backTo pos (starEach es env)).all (fun x => !x.1) && (backToKw pos (keywordEach [] env)).all (fun x => x.1.isSome) && decide (es.length + ([] : List Keyword).length + (if ([] : List Keyword).isEmpty then 0 else 1) < 30)) = true := by
  rw [backsAll h, decide_eq_true (by show es.length + 0 + 0 < 30; omega)]
  rfl
theorem isTrue_plain {e : Expr} (h : isPlainT e = true) (env : Env) (whole : Sem Value) : isTrue e env whole = (do let v ← whole; standAt e.pos; holding [v] (truthy v)) := by
  cases e <;> first | rfl | (exfalso; cases h; done) | skip
  rename_i op _ _
  cases op <;> first | rfl | (exfalso; cases h; done)
theorem plainIx_of {b : Expr} (h : noSlice b = true) : PlainIx b := fun o i => by cases b <;> first | rfl | cases h
theorem base_of {a : Expr} (h : plainBase a = true) (m : Str) (env : Env) (w : Sem Value) : attributeBase a m env w = w := by cases a <;> first | rfl | cases h
theorem noSet_of {i : Expr} (h : noSet i = true) (env : Env) (x : Value) : foldedSetIterable i env x = pure x := by cases i <;> first | rfl | cases h
theorem noComp_of {e : Expr} (h : noComp e = true) (t : Option Expr) (l : Nat) (env : Env) : swapsWith e t l env = pure false := by cases e <;> first | rfl | cases h
theorem assign_sub {i : Expr} (h : noSlice i = true) (o : Expr) (pos : Pos) (env : Env) (v : Value) : assign (.Subscript o i pos) env v = (do
      let ov ← holding [v] (eval o env)
      let iv ← holding [v, ov] (eval i env)
      standAt pos
      holding [v, ov, iv] (setItem ov iv v)
      release [v, ov, iv] []) := by cases i <;> first | rfl | cases h
theorem asgEach1 {e : Expr} (h : noStar e = true) (es : List Expr) (env : Env) : assignEach (e :: es) env = (false, assign e env) :: assignEach es env := by
  cases e <;> first | rfl | cases h
theorem asgEach_len : ∀ (es : List Expr) (env : Env), (assignEach es env).length = es.length
  | [], _ => rfl
  | e :: es, env => by
    have ih := asgEach_len es env
    cases e <;> (unfold assignEach; rw [List.length_cons, List.length_cons, ih])
theorem asgEach_idx : ∀ {es : List Expr}, es.all noStar = true → ∀ env : Env, (assignEach es env).findIdx? (·.1) = none
  | [], _, _ => rfl
  | e :: es, h, env => by
    rw [List.all_cons, Bool.and_eq_true] at h
    rw [asgEach1 h.1, List.findIdx?_cons, asgEach_idx h.2 env]
    rfl

/-! ### what holds where the text runs -/
structure Good (S : Sx) (fx : Fx) (W : WX) (X : Cx) : Prop where
  N : X.N = S.N
  nd : X.N.Nodup
  sc : X.env.scope = S.sc
  fn : ∀ x, S.fnb x = true → X.fn x = true
  calm : X.calm = true
  hu : X.A.units + 65 < cLine
  gd : X.A.guards = some []
  tk : Takes X W
  sm : SysM X.K
  blt : ∀ x, S.G x = some .blt → X.mg x = none
  int : ∀ x i, S.G x = some (.int i) → ∃ t, X.mg x = some (.int i t)
  str : ∀ x i, S.G x = some (.str i) → ∃ t, X.mg x = some (.str i t)
  fns : ∀ x i, S.G x = some (.fn i) → ∃ k f fd ps, GOk X.prog X.w X.K X.mg X.base k f fd ps (spR X.K (fx.F i)) ∧ Room k X.A ∧ X.mg x = some (.ref f) ∧ PySem.W.keepIn X.K (.ref f) = true ∧ BindsAll X.K fd ps
section
variable {S : Sx} {fx : Fx} {W : WX} {X : Cx}
def visB (sc : Scope) (x : Str) : Bool := match sc.names.lookup x with
  | some .local => true
  | some .cell => true
  | some .free => true
  | _ => false
def locB (sc : Scope) (x : Str) : Bool := match sc.names.lookup x with
  | some .local => true
  | some .cell => true
  | _ => false
def glB (sc : Scope) (x : Str) : Bool := match sc.names.lookup x with
  | some .globalImplicit => true
  | _ => false
def plB (sc : Scope) (x : Str) : Bool := match sc.names.lookup x with
  | some .local => true
  | _ => false
theorem vis_of {sc : Scope} {x : Str} (h : visB sc x = true) : Vis sc x := by
  unfold visB at h
  split at h
  · exact .inl (by assumption)
  · exact .inr (.inl (by assumption))
  · exact .inr (.inr (by assumption))
  · cases h
theorem loc_of {sc : Scope} {x : Str} (h : locB sc x = true) : Loc sc x := by
  unfold locB at h
  split at h
  · exact .inl (by assumption)
  · exact .inr (by assumption)
  · cases h
theorem pl_of {sc : Scope} {x : Str} (h : plB sc x = true) : sc.names.lookup x = some .local := by
  unfold plB at h
  split at h
  · assumption
  · cases h
theorem Good.gl (g : Good S fx W X) {x : Str} (h : glB S.sc x = true) : Gl X x := by
  unfold glB at h
  show X.env.scope.names.lookup x = some .globalImplicit
  rw [g.sc]
  split at h
  · assumption
  · cases h
theorem Good.vis (g : Good S fx W X) {x : Str} (h : visB S.sc x = true) : Vis X.env.scope x := by rw [g.sc]; exact vis_of h
theorem Good.loc (g : Good S fx W X) {x : Str} (h : locB S.sc x = true) : Loc X.env.scope x := by rw [g.sc]; exact loc_of h
theorem Good.pl (g : Good S fx W X) {x : Str} (h : plB S.sc x = true) : X.env.scope.names.lookup x = some .local := by rw [g.sc]; exact pl_of h
/-- the context of a block -/
def Sx.blk (S : Sx) (scope : Scope) : Sx := { S with sc := relS scope S.sc, fnb := fun x => scope.names.lookup x == some .cell }
theorem Good.blk (g : Good S fx W X) (scope : Scope) (s : Shared) (H : Hp) (C : Addr) (cl : List (Str × Addr)) (fp : List Addr) : Good (S.blk scope) fx W0 (X.blk s H scope (compEnvC scope cl C X.env) fp) where
  N := g.N
  nd := g.nd
  sc := by
    show relS scope X.env.scope = relS scope S.sc
    rw [g.sc]
  fn := fun _ h => h
  calm := g.calm
  hu := g.hu
  gd := g.gd
  tk := takes0
  sm := g.sm
  blt := g.blt
  int := g.int
  str := g.str
  fns := g.fns
end
end Rs
end

section
set_option Elab.async false
set_option linter.all false
set_option maxRecDepth 100000
set_option maxHeartbeats 2000000
set_option autoImplicit false
/-! RsChk2: the check of expressions. Own work. -/
namespace Rs
open PySem PySem.Spec PyProof.Rows L2

def bltName : Blt → Option (Str × Bool)
  | .len => some ("len", true)
  | .abs => some ("abs", true)
  | .max => some ("max", true)
  | .min => some ("min", true)
  | .sum => some ("sum", true)
  | .all => some ("all", true)
  | .any => some ("any", true)
  | .sorted => some ("sorted", true)
  | .tuple => some ("tuple", false)
  | .list => some ("list", false)
  | .int => some ("int", false)
  | .str => some ("str", false)
  | .repr => some ("repr", true)
  | _ => none
def isBlt (S : Sx) (x : Str) : Bool := glB S.sc x && match S.G x with
  | some .blt => true
  | _ => false
def isFn (S : Sx) (x : Str) (i : Nat) : Bool := glB S.sc x && x != dbg && match S.G x with
  | some (.fn j) => i == j
  | _ => false
def swB (sc : Scope) (scope : Scope) (t : Str) (p pos : Pos) : Bool := plB sc t && (p.line == pos.line) && !(scope.names.any fun (n, k) => n == t && (k == .local || k == .cell))
/-- the names of a block with their places -/
def ownOf (N : List Str) (own : List Nat) : List (Str × Nat) := own.map fun i => ((N[i]?).getD "", i)
theorem ownOf_ix (N : List Str) : ∀ own : List Nat, (ownOf N own).map (·.2) = own
  | [] => rfl
  | i :: r => by
    unfold ownOf
    rw [List.map_cons, List.map_cons]
    congr 1
    exact ownOf_ix N r
def sub (xs ys : List Nat) : Bool := xs.all fun i => decide (i ∈ ys)
mutual
/-- t: as a test -/
def chkE (S : Sx) (t : Bool) : E → Expr → Bool
  | .var i, x => match x with
    | .Name n _ => decide (S.N[i]? = some n) && visB S.sc n && n != dbg && n != cdc
    | _ => false
  | .cst d, x => match d, x with
    | .int i, .Constant (.int j) _ _ => decide (i = j)
    | .bl i, .Constant (.bool j) _ _ => decide (i = j)
    | .non, .Constant .none _ _ => true
    | .str i, .Constant (.str j) _ _ => decide (i = j)
    | _, _ => false
  | .glo n d, x => match x with
    | .Name m _ => decide (n = m) && glB S.sc m && m != dbg && match d, S.G m with
      | .int i, some (.int j) => decide (i = j)
      | .str i, some (.str j) => decide (i = j)
      | _, _ => false
    | _ => false
  | .tup es, x => match x with
    | .Tuple xs _ _ => xs.all noStar && chkEs S es xs
    | _ => false
  | .lst es, x => match x with
    | .List xs _ => xs.all noStar && chkEs S es xs
    | _ => false
  | .bop o a b, x => match x with
    | .BinOp l op r _ => decide (op = opOf o) && chkE S false a l && chkE S false b r
    | _ => false
  | .neg a, x => match x with
    | .UnaryOp .USub l _ => chkE S false a l
    | _ => false
  | .cmp o a b, x => match x with
    | .Compare l [op] [r] _ => decide (op = cmpOf o) && chkE S false a l && chkE S false b r && !behindInMarks op r
    | _ => false
  | .chn o p a b c, x => match x with
    | .Compare l [op, op2] [r, r2] _ => decide (op = cmpOf o) && decide (op2 = cmpOf p) && chkE S false a l && chkE S false b r && chkE S false c r2 && !behindInMarks op2 r2
    | _ => false
  | .and a b, x => match x with
    | .BoolOp .And [l, r] _ => chkE S t a l && chkE S t b r
    | .BoolOp .And (l :: r :: r2 :: rs) pos => chkE S t a l && chkE S t b (.BoolOp .And (r :: r2 :: rs) pos)
    | _ => false
  | .or a b, x => match x with
    | .BoolOp .Or [l, r] _ => chkE S t a l && chkE S t b r
    | .BoolOp .Or (l :: r :: r2 :: rs) pos => chkE S t a l && chkE S t b (.BoolOp .Or (r :: r2 :: rs) pos)
    | _ => false
  | .not a, x => match x with
    | .UnaryOp .Not l _ => chkE S t a l
    | _ => false
  | .ite c a b, x => match x with
    | .IfExp l r r2 _ => !t && chkE S true c l && chkE S false a r && chkE S false b r2
    | _ => false
  | .ix a b, x => match x with
    | .Subscript l r _ => chkE S false a l && chkE S false b r && noSlice r
    | _ => false
  | .sl a lo hi, x => match x with
    | .Subscript l (.Slice r r2 none _) _ => chkE S false a l && chkP S lo r && chkP S hi r2
    | _ => false
  | .call i as, x => match x with
    | .Call (.Name n _) xs [] _ => isFn S n i && xs.all noStar && chkEs S as xs
    | _ => false
  | .blt o as, x => match o with
    | .lenset => match x with
      | .Call (.Name n _) [.Call (.Name m _) [y] [] _] [] _ => isBlt S n && decide (n = "len") && isBlt S m && decide (m = "set") && noStar y && chkEs S as [y]
      | _ => false
    | _ => match x with
      | .Call (.Name n _) xs [] _ => isBlt S n && (match bltName o with
        | some (m, _) => decide (n = m)
        | none => false) && !xs.isEmpty && xs.all noStar && chkEs S as xs
      | _ => false
  | .rng lt as, x => match x with
    | .Call (.Name n _) [.Call (.Name m _) xs [] _] [] _ => isBlt S n && isBlt S m && decide (m = "range") && decide (n = if lt then "list" else "tuple") && xs.all noStar && chkEs S as xs && (xs.length == 1 || xs.length == 2)
    | _ => false
  | .mth o a as, x => match x with
    | .Call (.Attribute l m apos) xs [] pos => decide (m = mthName o) && plainBase l && chkE S false a l && !xs.isEmpty && xs.all noStar && decide (xs.length < 30) && (apos.endLine == pos.line) && chkEs S as xs
    | _ => false
  | .app a e, x => match x with
    | .Call (.Attribute l m apos) [y] [] pos => decide (m = "append") && plainBase l && chkE S false a l && noStar y && (apos.endLine == pos.line) && chkE S false e y
    | _ => false
  | .ext a e, x => match x with
    | .Call (.Attribute l m apos) [y] [] pos => decide (m = "extend") && plainBase l && chkE S false a l && noStar y && (apos.endLine == pos.line) && chkE S false e y
    | _ => false
  | .pop a, x => match x with
    | .Call (.Attribute l m apos) [] [] pos => decide (m = "pop") && plainBase l && chkE S false a l && (apos.endLine == pos.line)
    | _ => false
  | .isi a ty, x => match x with
    | .Call (.Name n _) [l, .Name m _] [] _ => isBlt S n && isBlt S m && decide (n = "isinstance") && (match ty with
      | .own _ => false
      | _ => decide (m = (tyName ty : Str))) && noStar l && chkE S false a l
    | _ => false
  | .lc own elt tg it c g, x => match x with
    | .ListComp y (⟨l, i, ifs, a⟩ :: gs) scope _ => decide (a = 0) && noSet i && blkC S.N S.sc scope (ownOf S.N own) && sub (slT tg ++ slG g) own && chkI S it l i &&
      chkT (S.blk scope) tg l && chkC (S.blk scope) c ifs && chkG (S.blk scope) g gs && chkE (S.blk scope) false elt y
    | _ => false
  | .mut e, x => chkF S e x
  | _, _ => false
/-- what makes a new list -/
def chkF (S : Sx) : E → Expr → Bool
  | .lst es, x => match x with
    | .List xs _ => xs.all noStar && chkEs S es xs
    | _ => false
  | .lc own elt tg it c g, x => match x with
    | .ListComp y (⟨l, i, ifs, a⟩ :: gs) scope _ => decide (a = 0) && noSet i && blkC S.N S.sc scope (ownOf S.N own) && sub (slT tg ++ slG g) own && chkI S it l i &&
      chkT (S.blk scope) tg l && chkC (S.blk scope) c ifs && chkG (S.blk scope) g gs && chkE (S.blk scope) false elt y
    | _ => false
  | _, _ => false
def chkEs (S : Sx) : Es → List Expr → Bool
  | .nil, xs => xs.isEmpty
  | .cons e es, xs => match xs with
    | y :: ys => chkE S false e y && chkEs S es ys
    | [] => false
/-- a slice's part -/
def chkP (S : Sx) : Es → Option Expr → Bool
  | .nil, x => x.isNone
  | .cons e es, x => match es, x with
    | .nil, some y => chkE S false e y
    | _, _ => false
/-- a clause's tests -/
def chkC (S : Sx) : Es → List Expr → Bool
  | .nil, xs => xs.isEmpty
  | .cons e es, xs => match es, xs with
    | .nil, [y] => chkE S true e y
    | _, _ => false
def chkI (S : Sx) : Rs.It → Expr → Expr → Bool
  | .of e, _, x => chkE S false e x
  | .rng es, _, x => match x with
    | .Call (.Name n _) xs [] _ => isBlt S n && decide (n = "range") && xs.all noStar && chkEs S es xs && (xs.length == 1 || xs.length == 2 || xs.length == 3)
    | _ => false
  | .enu e, l, x => match l, x with
    | .Tuple .., .Call (.Name n _) [y] [] _ => isBlt S n && decide (n = "enumerate") && noStar y && chkE S false e y
    | _, _ => false
  | .zip a b, l, x => match l, x with
    | .Tuple .., .Call (.Name n _) [y, z] [] _ => isBlt S n && decide (n = "zip") && noStar y && noStar z && chkE S false a y && chkE S false b z
    | _, _ => false
  | .items _, _, _ => false
def chkG (S : Sx) : Gs → List Comprehension → Bool
  | .nil, gs => gs.isEmpty
  | .cons tg it c g, gs => match gs with
    | ⟨l, i, ifs, a⟩ :: gs => decide (a = 0) && noSet i && chkI S it l i && chkT S tg l && chkC S c ifs && chkG S g gs
    | [] => false
def chkT (S : Sx) : Tg → Expr → Bool
  | .nm i, x => match x with
    | .Name n _ => decide (S.N[i]? = some n) && locB S.sc n && (S.fnb n || plB S.sc n)
    | _ => false
  | .tup ts, x => match x with
    | .Tuple xs _ _ => xs.all noStar && chkTs S ts xs
    | _ => false
  | .sub o i, x => match x with
    | .Subscript l r _ => chkE S false o l && chkE S false i r && noSlice r
    | _ => false
  | _, _ => false
def chkTs (S : Sx) : Tgs → List Expr → Bool
  | .nil, xs => xs.isEmpty
  | .cons t ts, xs => match xs with
    | y :: ys => chkT S t y && chkTs S ts ys
    | [] => false
end
end Rs
end

section
set_option Elab.async false
set_option linter.all false
set_option maxRecDepth 100000
set_option maxHeartbeats 4000000
set_option autoImplicit false
/-! RsChk3: the check of expressions is sound. Own work. -/
namespace Rs
open PySem PySem.Spec PyProof.Rows L2

def RuleOf (X : Cx) (fx : Fx) (W : WX) (t : Bool) (e : E) (x : Expr) : Prop :=
  match t with
  | false => PE X x (tE X.K fx W e)
  | true => PT X x (tT X.K fx W e)
section
variable {fx : Fx}
theorem fin {X : Cx} {W : WX} {t : Bool} {e : E} {x : Expr} (h : PE X x (tE X.K fx W e)) (hp : isPlainT x = true) : RuleOf X fx W t e x := by
  cases t with
  | false => exact h
  | true => exact r_truth h fun whole => isTrue_plain hp X.env whole
theorem blt_of {S : Sx} {W : WX} {X : Cx} (g : Good S fx W X) {x : Str} (h : isBlt S x = true) : Gl X x ∧ X.mg x = none := by
  unfold isBlt at h
  rw [Bool.and_eq_true] at h
  refine ⟨g.gl h.1, g.blt x ?_⟩
  have h2 := h.2
  split at h2
  · assumption
  · cases h2
theorem fn_of {S : Sx} {W : WX} {X : Cx} (g : Good S fx W X) {x : Str} {i : Nat} (h : isFn S x i = true) : Gl X x ∧ (x == dbg) = false ∧ S.G x = some (.fn i) := by
  unfold isFn at h
  rw [Bool.and_eq_true, Bool.and_eq_true] at h
  refine ⟨g.gl h.1.1, by simpa using h.1.2, ?_⟩
  have h2 := h.2
  split at h2
  · rename_i j e
    have : i = j := by simpa using h2
    rw [this]; exact e
  · cases h2
/-- the built-ins as a table -/
theorem r_blt {X : Cx} {W : WX} {o : Blt} {n m : Str} {b : Bool} {p pos : Pos} {xs : List Expr} {as : Es} (hc : X.calm = true) (hu : X.A.units + 65 < cLine) (hgd : X.A.guards = some []) (sm : SysM X.K) (hn : bltName o = some (m, b)) (e : n = m) (hg : Gl X n) (hm : X.mg n = none) (he : xs.isEmpty = false) (hs : xs.all noStar = true)
    (ha : PA X xs (tEs X.K fx W as)) : PE X (.Call (.Name n p) xs [] pos) (tE X.K fx W (.blt o as)) := by
  cases xs with
  | nil => cases he
  | cons y ys =>
    rw [List.all_cons, Bool.and_eq_true] at hs
    have h1 := starEach1 hs.1 ys X.env
    have h2 := backs hs.2 pos X.env
    subst e
    cases o <;> first | (exfalso; cases hn; done) | skip
    · cases hn; exact r_bltB call_lenD hg hm PySem.boot_len ha (by decide) (by decide) h1 h2
    · cases hn; exact r_bltB call_absD hg hm (by decide +kernel) ha (by decide) (by decide) h1 h2
    · cases hn; exact r_bltB (call_maxD hc) hg hm (by decide +kernel) ha (by decide) (by decide) h1 h2
    · cases hn; exact r_bltB (call_minD hc) hg hm (by decide +kernel) ha (by decide) (by decide) h1 h2
    · cases hn; exact r_bltB (call_sumD hc) hg hm (by decide +kernel) ha (by decide) (by decide) h1 h2
    · cases hn; exact r_bltB (call_allD hc) hg hm (by decide +kernel) ha (by decide) (by decide) h1 h2
    · cases hn; exact r_bltB (call_anyD hc) hg hm (by decide +kernel) ha (by decide) (by decide) h1 h2
    · cases hn; exact r_bltB call_sortedD hg hm (by decide +kernel) ha (by decide) (by decide) h1 h2
    · cases hn; exact r_bltT call_tupleD hg hm (by decide +kernel) ha (by decide) (by decide) h1 h2
    · cases hn; exact r_bltT call_listD hg hm (by decide +kernel) ha (by decide) (by decide) h1 h2
    · cases hn; exact r_bltT call_intD hg hm (by decide +kernel) ha (by decide) (by decide) h1 h2
    · cases hn; exact r_bltT call_strD hg hm (by decide +kernel) ha (by decide) (by decide) h1 h2
    · cases hn; exact r_bltB (call_reprD sm hgd hu) hg hm (by decide +kernel) ha (by decide) (by decide) h1 h2
theorem ty_boot : ∀ t : Ty, (∀ c, t ≠ .own c) → bootBuiltins (tyName t : Str) = some (.type (tyName t)) ∧ (tyName t : Str) ≠ "__name__" ∧ ((tyName t : Str) == ("__debug__" : Str)) = false
  | .int, _ => ⟨by decide +kernel, by decide, by decide⟩
  | .bool, _ => ⟨by decide +kernel, by decide, by decide⟩
  | .str, _ => ⟨by decide +kernel, by decide, by decide⟩
  | .tup, _ => ⟨by decide +kernel, by decide, by decide⟩
  | .lst, _ => ⟨by decide +kernel, by decide, by decide⟩
  | .own c, h => absurd rfl (h c)
theorem sub_of {xs ys : List Nat} (h : sub xs ys = true) : ∀ j, j ∈ xs → j ∈ ys := fun j hj => of_decide_eq_true (List.all_eq_true.mp h j hj)
/-- one more conjunct -/
theorem and2 {a b : Bool} (h : (a && b) = true) : a = true ∧ b = true := by rwa [Bool.and_eq_true] at h
theorem not_true {b : Bool} (h : (!b) = true) : b = false := by simpa using h
theorem dec {p : Prop} [Decidable p] (h : decide p = true) : p := of_decide_eq_true h
theorem ne_of_bne {a b : Str} (h : (a != b) = true) : (a == b) = false := by simpa using h
theorem r_lcX {S : Sx} {W : WX} {X : Cx} (g : Good S fx W X) {elt y l i : Expr} {ifs : List Expr} {gs : List Comprehension} {scope : Scope} {pos : Pos} {own : List Nat} {elt' : E} {tg : Tg} {it : Rs.It} {c : Es} {g' : Gs}
    (hset : noSet i = true) (hblk : blkC S.N S.sc scope (ownOf S.N own) = true) (hsub : sub (slT tg ++ slG g') own = true) (hi : PI X l i (tI X.K fx W it)) (hb : BlkR X fx y l i ifs gs scope pos elt' tg c g') :
    PE X (.ListComp y (⟨l, i, ifs, 0⟩ :: gs) scope pos) (tFr X.K fx W (.lc own elt' tg it c g')) := by
  have h := r_lcF (own := ownOf S.N own) g.calm g.nd hi (blkOk_by (by rw [g.N, g.sc]; exact hblk)) hb (fun j hj => by rw [ownOf_ix]; exact sub_of hsub j hj) (noSet_of hset X.env)
  rw [ownOf_ix] at h
  exact h
theorem okTs_cons {X : Cx} {W : WX} {y : Expr} {ys : List Expr} {t : Tg} {ts : Tgs} (h : noStar y = true) (h1 : PG X y (tG X.K fx W t)) (h2 : PGs X ys (tGs X.K fx W ts)) : PGs X (y :: ys) (tGs X.K fx W (.cons t ts)) :=
  r_gcons h1 h2 (by rw [asgEach1 h, List.map_cons])
mutual
theorem okE : ∀ (e : E) (S : Sx) (W : WX) (X : Cx) (t : Bool) (x : Expr), Good S fx W X → chkE S t e x = true → RuleOf X fx W t e x
  | .var i, S, W, X, t, x, g, h => by
    unfold chkE at h
    split at h
    · obtain ⟨h, h4⟩ := and2 h
      obtain ⟨h, h3⟩ := and2 h
      obtain ⟨h1, h2⟩ := and2 h
      exact fin (r_var (by rw [g.N]; exact dec h1) (g.vis h2) (ne_of_bne h3) (ne_of_bne h4)) rfl
    · cases h
  | .cst d, S, W, X, t, x, g, h => by
    unfold chkE at h
    split at h
    · rw [dec h]; exact fin r_int rfl
    · rw [dec h]; exact fin r_bl rfl
    · exact fin r_non rfl
    · rw [dec h]; exact fin r_str rfl
    · cases h
  | .glo n d, S, W, X, t, x, g, h => by
    unfold chkE at h
    split at h
    · obtain ⟨h, h4⟩ := and2 h
      obtain ⟨h, h3⟩ := and2 h
      obtain ⟨h1, h2⟩ := and2 h
      have e := dec h1
      subst e
      split at h4
      · rename_i e2
        rw [dec h4]
        obtain ⟨tk, hm⟩ := g.int _ _ e2
        exact fin (r_globI (g.gl h2) hm (ne_of_bne h3)) rfl
      · rename_i e2
        rw [dec h4]
        obtain ⟨tk, hm⟩ := g.str _ _ e2
        exact fin (r_globS (g.gl h2) hm (ne_of_bne h3)) rfl
      · cases h4
    · cases h
  | .tup es, S, W, X, t, x, g, h => by
    unfold chkE at h
    split at h
    · obtain ⟨h1, h2⟩ := and2 h
      exact fin (r_tup (okEs es S W X _ g h1 h2)) rfl
    · cases h
  | .lst es, S, W, X, t, x, g, h => by
    unfold chkE at h
    split at h
    · obtain ⟨h1, h2⟩ := and2 h
      exact fin (r_lst (okEs es S W X _ g h1 h2)) rfl
    · cases h
  | .bop o a b, S, W, X, t, x, g, h => by
    unfold chkE at h
    split at h
    · obtain ⟨h, h3⟩ := and2 h
      obtain ⟨h1, h2⟩ := and2 h
      rw [dec h1]
      exact fin (r_bop (okE a S W X false _ g h2) (okE b S W X false _ g h3)) rfl
    · cases h
  | .neg a, S, W, X, t, x, g, h => by
    unfold chkE at h
    split at h
    · exact fin (r_neg (okE a S W X false _ g h)) rfl
    · cases h
  | .cmp o a b, S, W, X, t, x, g, h => by
    unfold chkE at h
    split at h
    · obtain ⟨h, h4⟩ := and2 h
      obtain ⟨h, h3⟩ := and2 h
      obtain ⟨h1, h2⟩ := and2 h
      have e := dec h1
      subst e
      have hb := not_true h4
      cases t with
      | false => exact r_cmp g.hu (okE a S W X false _ g h2) (okE b S W X false _ g h3) hb
      | true => exact r_cmpT g.hu (okE a S W X false _ g h2) (okE b S W X false _ g h3) hb
    · cases h
  | .chn o p a b c, S, W, X, t, x, g, h => by
    unfold chkE at h
    split at h
    · obtain ⟨h, h6⟩ := and2 h
      obtain ⟨h, h5⟩ := and2 h
      obtain ⟨h, h4⟩ := and2 h
      obtain ⟨h, h3⟩ := and2 h
      obtain ⟨h1, h2⟩ := and2 h
      have e := dec h1
      subst e
      have e := dec h2
      subst e
      have hb := not_true h6
      cases t with
      | false => exact r_chn g.hu (okE a S W X false _ g h3) (okE b S W X false _ g h4) (okE c S W X false _ g h5) hb
      | true => exact r_chnT g.hu (okE a S W X false _ g h3) (okE b S W X false _ g h4) (okE c S W X false _ g h5) hb
    · cases h
  | .and a b, S, W, X, t, x, g, h => by
    unfold chkE at h
    split at h
    · obtain ⟨h1, h2⟩ := and2 h
      cases t with
      | false => exact r_and (okE a S W X false _ g h1) (pe_one (okE b S W X false _ g h2))
      | true => exact r_andT (okE a S W X true _ g h1) (pt_one (okE b S W X true _ g h2))
    · obtain ⟨h1, h2⟩ := and2 h
      cases t with
      | false => exact r_and (okE a S W X false _ g h1) (okE b S W X false _ g h2)
      | true => exact r_andT (okE a S W X true _ g h1) (okE b S W X true _ g h2)
    · cases h
  | .or a b, S, W, X, t, x, g, h => by
    unfold chkE at h
    split at h
    · obtain ⟨h1, h2⟩ := and2 h
      cases t with
      | false => exact r_or (okE a S W X false _ g h1) (pe_one (okE b S W X false _ g h2))
      | true => exact r_orT (okE a S W X true _ g h1) (pt_one (okE b S W X true _ g h2))
    · obtain ⟨h1, h2⟩ := and2 h
      cases t with
      | false => exact r_or (okE a S W X false _ g h1) (okE b S W X false _ g h2)
      | true => exact r_orT (okE a S W X true _ g h1) (okE b S W X true _ g h2)
    · cases h
  | .not a, S, W, X, t, x, g, h => by
    unfold chkE at h
    split at h
    · cases t with
      | false => exact r_not (okE a S W X false _ g h)
      | true => exact r_notT (okE a S W X true _ g h)
    · cases h
  | .ite c a b, S, W, X, t, x, g, h => by
    unfold chkE at h
    split at h
    · obtain ⟨h, h4⟩ := and2 h
      obtain ⟨h, h3⟩ := and2 h
      obtain ⟨h1, h2⟩ := and2 h
      cases t with
      | false => exact r_ite (okE c S W X true _ g h2) (okE a S W X false _ g h3) (okE b S W X false _ g h4)
      | true => cases h1
    · cases h
  | .ix a b, S, W, X, t, x, g, h => by
    unfold chkE at h
    split at h
    · obtain ⟨h, h3⟩ := and2 h
      obtain ⟨h1, h2⟩ := and2 h
      exact fin (r_ix (okE a S W X false _ g h1) (okE b S W X false _ g h2) (plainIx_of h3)) rfl
    · cases h
  | .sl a lo hi, S, W, X, t, x, g, h => by
    unfold chkE at h
    split at h
    · obtain ⟨h, h3⟩ := and2 h
      obtain ⟨h1, h2⟩ := and2 h
      exact fin (r_sl (okE a S W X false _ g h1) (okP lo S W X _ g h2) (okP hi S W X _ g h3)) rfl
    · cases h
  | .call i as, S, W, X, t, x, g, h => by
    unfold chkE at h
    split at h
    · rename_i n p xs pos
      obtain ⟨h, h3⟩ := and2 h
      obtain ⟨h1, h2⟩ := and2 h
      obtain ⟨hg, hd, hG⟩ := fn_of g h1
      obtain ⟨k, f, fd, ps, G, hr, hm, hk, hb⟩ := g.fns _ _ hG
      have ha := okEs as S W X xs g h2 h3
      cases xs with
      | nil =>
        cases as with
        | nil => exact fin (r_call0 G hr g.gd hg hm hk hb g.tk hd) rfl
        | cons e es => unfold chkEs at h3; cases h3
      | cons y ys =>
        rw [List.all_cons, Bool.and_eq_true] at h2
        exact fin (r_call G hr g.gd hg hm hk hb g.tk ha hd (starEach1 h2.1 ys X.env) (backs h2.2 _ X.env)) rfl
    · cases h
  | .blt o as, S, W, X, t, x, g, h => by
    unfold chkE at h
    split at h
    · split at h
      · obtain ⟨h, h6⟩ := and2 h
        obtain ⟨h, h5⟩ := and2 h
        obtain ⟨h, h4⟩ := and2 h
        obtain ⟨h, h3⟩ := and2 h
        obtain ⟨h1, h2⟩ := and2 h
        obtain ⟨hg, hm⟩ := blt_of g h1
        obtain ⟨hg2, hm2⟩ := blt_of g h3
        have e1 := dec h2
        subst e1
        have e2 := dec h4
        subst e2
        exact fin (r_lenset g.calm g.hu hg hm hg2 hm2 (okEs as S W X _ g (by rw [List.all_cons, h5]; rfl) h6) (starEach1 h5 [] X.env)) rfl
      · cases h
    · split at h
      · obtain ⟨h, h5⟩ := and2 h
        obtain ⟨h, h4⟩ := and2 h
        obtain ⟨h, h3⟩ := and2 h
        obtain ⟨h1, h2⟩ := and2 h
        obtain ⟨hg, hm⟩ := blt_of g h1
        split at h2
        · rename_i m b hn
          exact fin (r_blt g.calm g.hu g.gd g.sm hn (dec h2) hg hm (by simpa using h3) h4 (okEs as S W X _ g h4 h5)) rfl
        · cases h2
      · cases h
  | .rng lt as, S, W, X, t, x, g, h => by
    unfold chkE at h
    split at h
    · rename_i n p m p2 xs pos2 pos
      obtain ⟨h, h7⟩ := and2 h
      obtain ⟨h, h6⟩ := and2 h
      obtain ⟨h, h5⟩ := and2 h
      obtain ⟨h, h4⟩ := and2 h
      obtain ⟨h, h3⟩ := and2 h
      obtain ⟨h1, h2⟩ := and2 h
      obtain ⟨hg1, hm1⟩ := blt_of g h1
      obtain ⟨hg2, hm2⟩ := blt_of g h2
      have e := dec h3
      subst e
      have rge : RgE X fx W (.Call (.Name "range" p2) xs [] pos2) as := by
        match xs, as, h5, h6 with
        | [y], .cons e1 .nil, h5, h6 =>
          unfold chkEs at h6
          obtain ⟨k1, k2⟩ := and2 h6
          rw [List.all_cons, Bool.and_eq_true] at h5
          exact .one (okE e1 S W X false _ g k1) (starEach1 h5.1 [] X.env)
        | [y, z], .cons e1 (.cons e2 .nil), h5, h6 =>
          unfold chkEs at h6
          obtain ⟨k1, k2⟩ := and2 h6
          unfold chkEs at k2
          obtain ⟨k2, k3⟩ := and2 k2
          rw [List.all_cons, Bool.and_eq_true] at h5
          have h52 := h5.2
          rw [List.all_cons, Bool.and_eq_true] at h52
          exact .two (okE e1 S W X false _ g k1) (okE e2 S W X false _ g k2) (starEach1 h5.1 [z] X.env) (starEach1 h52.1 [] X.env) (backs h5.2 _ X.env)
        | [], _, _, _ => cases h7
        | _ :: _ :: _ :: _, _, _, _ => simp at h7
        | [y], .nil, _, h6 => unfold chkEs at h6; cases h6
        | [y], .cons e1 (.cons e2 es), _, h6 => simp [chkEs] at h6
        | [y, z], .nil, _, h6 => unfold chkEs at h6; cases h6
        | [y, z], .cons e1 .nil, _, h6 => simp [chkEs] at h6
        | [y, z], .cons e1 (.cons e2 (.cons e3 es)), _, h6 => simp [chkEs] at h6
      have e := dec h4
      cases lt with
      | true =>
        have e : n = "list" := e
        subst e
        exact fin (r_rngL g.calm hg1 hm1 hg2 hm2 rge (starEach1 rfl [] X.env)) rfl
      | false =>
        have e : n = "tuple" := e
        subst e
        exact fin (r_rngT g.calm hg1 hm1 hg2 hm2 rge (starEach1 rfl [] X.env)) rfl
    · cases h
  | .mth o a as, S, W, X, t, x, g, h => by
    unfold chkE at h
    split at h
    · rename_i l m apos xs pos
      obtain ⟨h, h8⟩ := and2 h
      obtain ⟨h, h7⟩ := and2 h
      obtain ⟨h, h6⟩ := and2 h
      obtain ⟨h, h5⟩ := and2 h
      obtain ⟨h, h4⟩ := and2 h
      obtain ⟨h, h3⟩ := and2 h
      obtain ⟨h1, h2⟩ := and2 h
      have e := dec h1
      subst e
      cases xs with
      | nil => cases h4
      | cons y ys =>
        have h5' := h5
        rw [List.all_cons, Bool.and_eq_true] at h5
        exact fin (r_mth g.hu (okE a S W X false _ g h3) (okEs as S W X _ g h5' h8) (base_of h2 _ X.env _) (few_of h5' (dec h6) pos X.env) h7 (starEach1 h5.1 ys X.env) (backs h5.2 _ X.env)) rfl
    · cases h
  | .app a e, S, W, X, t, x, g, h => by
    unfold chkE at h
    split at h
    · obtain ⟨h, h6⟩ := and2 h
      obtain ⟨h, h5⟩ := and2 h
      obtain ⟨h, h4⟩ := and2 h
      obtain ⟨h, h3⟩ := and2 h
      obtain ⟨h1, h2⟩ := and2 h
      have e1 := dec h1
      subst e1
      exact fin (r_app (okE a S W X false _ g h3) (okE e S W X false _ g h6) (base_of h2 _ X.env _) (few_of (by simpa using h4) (by show 1 < 30; decide) _ X.env) h5 (starEach1 h4 [] X.env) rfl) rfl
    · cases h
  | .ext a e, S, W, X, t, x, g, h => by
    unfold chkE at h
    split at h
    · obtain ⟨h, h6⟩ := and2 h
      obtain ⟨h, h5⟩ := and2 h
      obtain ⟨h, h4⟩ := and2 h
      obtain ⟨h, h3⟩ := and2 h
      obtain ⟨h1, h2⟩ := and2 h
      have e1 := dec h1
      subst e1
      exact fin (r_ext (okE a S W X false _ g h3) (okE e S W X false _ g h6) (base_of h2 _ X.env _) (few_of (by simpa using h4) (by show 1 < 30; decide) _ X.env) h5 (starEach1 h4 [] X.env) rfl) rfl
    · cases h
  | .pop a, S, W, X, t, x, g, h => by
    unfold chkE at h
    split at h
    · obtain ⟨h, h4⟩ := and2 h
      obtain ⟨h, h3⟩ := and2 h
      obtain ⟨h1, h2⟩ := and2 h
      have e1 := dec h1
      subst e1
      exact fin (r_pop (okE a S W X false _ g h3) (base_of h2 _ X.env _) h4) rfl
    · cases h
  | .isi a ty, S, W, X, t, x, g, h => by
    unfold chkE at h
    split at h
    · rename_i n p l m p2 pos
      obtain ⟨h, h6⟩ := and2 h
      obtain ⟨h, h5⟩ := and2 h
      obtain ⟨h, h4⟩ := and2 h
      obtain ⟨h, h3⟩ := and2 h
      obtain ⟨h1, h2⟩ := and2 h
      obtain ⟨hg1, hm1⟩ := blt_of g h1
      obtain ⟨hg2, hm2⟩ := blt_of g h2
      have e1 := dec h3
      subst e1
      have no : ∀ c, ty ≠ .own c := fun c e => by subst e; cases h4
      have hm : m = (tyName ty : Str) := by
        cases ty <;> first | exact dec h4 | exact absurd rfl (no _)
      subst hm
      obtain ⟨b1, b2, b3⟩ := ty_boot ty no
      exact fin (r_isi hg1 hm1 (okE a S W X false _ g h6) hg2 hm2 b1 b2 b3 (starEach1 h5 _ X.env) (starEach1 rfl [] X.env) rfl) rfl
    · cases h
  | .lc own elt tg it c gg, S, W, X, t, x, g, h => by
    unfold chkE at h
    split at h
    · rename_i y l i ifs a gs scope pos
      obtain ⟨h, h9⟩ := and2 h
      obtain ⟨h, h8⟩ := and2 h
      obtain ⟨h, h7⟩ := and2 h
      obtain ⟨h, h6⟩ := and2 h
      obtain ⟨h, h5⟩ := and2 h
      obtain ⟨h, h4⟩ := and2 h
      obtain ⟨h, h3⟩ := and2 h
      obtain ⟨h1, h2⟩ := and2 h
      have e1 := dec h1
      subst e1
      refine fin (r_fro (r_lcX g (elt := y) h2 h3 h4 (okI it S W X l i g h5) fun s H C cl fp => ?_) gl_lc) rfl
      have gb := g.blk scope s H C cl fp
      exact ⟨okT tg _ _ _ _ gb h6, okC c _ _ _ _ gb h7, fun Dl => okG gg _ _ gs gb rfl y (allG l i ifs gs) scope pos 1 elt Dl (fun j => by rw [Nat.add_comm]; rfl) h8 (okE elt _ _ _ false _ gb h9)⟩
    · cases h
  | .mut e, S, W, X, t, x, g, h => by
    unfold chkE at h
    obtain ⟨h1, h2, h3⟩ := okF e S W X x g h
    exact fin (r_mut h1 h2) h3
  | .dct _ _ _, _, _, _, _, _, _, h => by unfold chkE at h; cases h
  | .rev _, _, _, _, _, _, _, h => by unfold chkE at h; cases h
  | .ckw _ _ _, _, _, _, _, _, _, h => by unfold chkE at h; cases h
  | .mk _ _ _, _, _, _, _, _, _, h => by unfold chkE at h; cases h
  | .om _ _ _ _ _, _, _, _, _, _, _, h => by unfold chkE at h; cases h
  | .fld _ _ _, _, _, _, _, _, _, h => by unfold chkE at h; cases h
  | .frz _, _, _, _, _, _, _, h => by unfold chkE at h; cases h
theorem okF : ∀ (e : E) (S : Sx) (W : WX) (X : Cx) (x : Expr), Good S fx W X → chkF S e x = true → PE X x (tFr X.K fx W e) ∧ GivesL fx e ∧ isPlainT x = true
  | .lst es, S, W, X, x, g, h => by
    unfold chkF at h
    split at h
    · obtain ⟨h1, h2⟩ := and2 h
      exact ⟨r_lstF (okEs es S W X _ g h1 h2), gl_lst, rfl⟩
    · cases h
  | .lc own elt tg it c gg, S, W, X, x, g, h => by
    unfold chkF at h
    split at h
    · rename_i y l i ifs a gs scope pos
      obtain ⟨h, h9⟩ := and2 h
      obtain ⟨h, h8⟩ := and2 h
      obtain ⟨h, h7⟩ := and2 h
      obtain ⟨h, h6⟩ := and2 h
      obtain ⟨h, h5⟩ := and2 h
      obtain ⟨h, h4⟩ := and2 h
      obtain ⟨h, h3⟩ := and2 h
      obtain ⟨h1, h2⟩ := and2 h
      have e1 := dec h1
      subst e1
      refine ⟨r_lcX g (elt := y) h2 h3 h4 (okI it S W X l i g h5) fun s H C cl fp => ?_, gl_lc, rfl⟩
      have gb := g.blk scope s H C cl fp
      exact ⟨okT tg _ _ _ _ gb h6, okC c _ _ _ _ gb h7, fun Dl => okG gg _ _ gs gb rfl y (allG l i ifs gs) scope pos 1 elt Dl (fun j => by rw [Nat.add_comm]; rfl) h8 (okE elt _ _ _ false _ gb h9)⟩
    · cases h
  | .var _, _, _, _, _, _, h => by unfold chkF at h; cases h
  | .cst _, _, _, _, _, _, h => by unfold chkF at h; cases h
  | .glo _ _, _, _, _, _, _, h => by unfold chkF at h; cases h
  | .tup _, _, _, _, _, _, h => by unfold chkF at h; cases h
  | .dct _ _ _, _, _, _, _, _, h => by unfold chkF at h; cases h
  | .mut _, _, _, _, _, _, h => by unfold chkF at h; cases h
  | .bop _ _ _, _, _, _, _, _, h => by unfold chkF at h; cases h
  | .neg _, _, _, _, _, _, h => by unfold chkF at h; cases h
  | .cmp _ _ _, _, _, _, _, _, h => by unfold chkF at h; cases h
  | .chn _ _ _ _ _, _, _, _, _, _, h => by unfold chkF at h; cases h
  | .and _ _, _, _, _, _, _, h => by unfold chkF at h; cases h
  | .or _ _, _, _, _, _, _, h => by unfold chkF at h; cases h
  | .not _, _, _, _, _, _, h => by unfold chkF at h; cases h
  | .ite _ _ _, _, _, _, _, _, h => by unfold chkF at h; cases h
  | .ix _ _, _, _, _, _, _, h => by unfold chkF at h; cases h
  | .sl _ _ _, _, _, _, _, _, h => by unfold chkF at h; cases h
  | .rev _, _, _, _, _, _, h => by unfold chkF at h; cases h
  | .call _ _, _, _, _, _, _, h => by unfold chkF at h; cases h
  | .ckw _ _ _, _, _, _, _, _, h => by unfold chkF at h; cases h
  | .mk _ _ _, _, _, _, _, _, h => by unfold chkF at h; cases h
  | .om _ _ _ _ _, _, _, _, _, _, h => by unfold chkF at h; cases h
  | .fld _ _ _, _, _, _, _, _, h => by unfold chkF at h; cases h
  | .blt _ _, _, _, _, _, _, h => by unfold chkF at h; cases h
  | .rng _ _, _, _, _, _, _, h => by unfold chkF at h; cases h
  | .mth _ _ _, _, _, _, _, _, h => by unfold chkF at h; cases h
  | .app _ _, _, _, _, _, _, h => by unfold chkF at h; cases h
  | .ext _ _, _, _, _, _, _, h => by unfold chkF at h; cases h
  | .pop _, _, _, _, _, _, h => by unfold chkF at h; cases h
  | .isi _ _, _, _, _, _, _, h => by unfold chkF at h; cases h
  | .frz _, _, _, _, _, _, h => by unfold chkF at h; cases h
theorem okEs : ∀ (es : Es) (S : Sx) (W : WX) (X : Cx) (xs : List Expr), Good S fx W X → xs.all noStar = true → chkEs S es xs = true → PA X xs (tEs X.K fx W es)
  | .nil, S, W, X, xs, g, hs, h => by
    cases xs with
    | nil => exact r_nil
    | cons y ys => unfold chkEs at h; cases h
  | .cons e es, S, W, X, xs, g, hs, h => by
    unfold chkEs at h
    split at h
    · obtain ⟨h1, h2⟩ := and2 h
      rw [List.all_cons, Bool.and_eq_true] at hs
      exact r_cons (okE e S W X false _ g h1) (okEs es S W X _ g hs.2 h2) (starEach1 hs.1 _ X.env)
    · cases h
theorem okP : ∀ (es : Es) (S : Sx) (W : WX) (X : Cx) (o : Option Expr), Good S fx W X → chkP S es o = true → PO X o (tO X.K fx W es)
  | .nil, S, W, X, o, g, h => by
    cases o with
    | none => exact r_ptN
    | some y => unfold chkP at h; cases h
  | .cons e es, S, W, X, o, g, h => by
    unfold chkP at h
    split at h
    · exact r_ptS (okE e S W X false _ g h)
    · cases h
theorem okC : ∀ (es : Es) (S : Sx) (W : WX) (X : Cx) (xs : List Expr), Good S fx W X → chkC S es xs = true → PTs X xs (tTs X.K fx W es)
  | .nil, S, W, X, xs, g, h => by
    cases xs with
    | nil => exact r_tnil
    | cons y ys => unfold chkC at h; cases h
  | .cons e es, S, W, X, xs, g, h => by
    unfold chkC at h
    split at h
    · exact r_tone (okE e S W X true _ g h)
    · cases h
theorem okI : ∀ (it : Rs.It) (S : Sx) (W : WX) (X : Cx) (l x : Expr), Good S fx W X → chkI S it l x = true → PI X l x (tI X.K fx W it)
  | .of e, S, W, X, l, x, g, h => by
    unfold chkI at h
    exact r_of (okE e S W X false _ g h)
  | .rng es, S, W, X, l, x, g, h => by
    unfold chkI at h
    split at h
    · rename_i n p xs pos
      obtain ⟨h, h5⟩ := and2 h
      obtain ⟨h, h4⟩ := and2 h
      obtain ⟨h, h3⟩ := and2 h
      obtain ⟨h1, h2⟩ := and2 h
      obtain ⟨hg, hm⟩ := blt_of g h1
      have e1 := dec h2
      subst e1
      have ha := okEs es S W X xs g h3 h4
      match xs, es, h3, h4, ha with
      | [y], .cons e1 .nil, h3, h4, ha =>
        rw [List.all_cons, Bool.and_eq_true] at h3
        exact r_rng1 hg hm ha (starEach1 h3.1 [] X.env)
      | [y, z], .cons e1 (.cons e2 .nil), h3, h4, ha =>
        rw [List.all_cons, Bool.and_eq_true] at h3
        have h32 := h3.2
        rw [List.all_cons, Bool.and_eq_true] at h32
        exact r_rng2 hg hm ha (by rw [starEach1 h3.1, starEach1 h32.1]; rfl) (starEach1 h32.1 [] X.env)
      | [y, z, w], .cons e1 (.cons e2 (.cons e3 .nil)), h3, h4, ha =>
        rw [List.all_cons, Bool.and_eq_true] at h3
        exact r_rng3 hg hm ha (starEach1 h3.1 _ X.env) (backs h3.2 _ X.env)
      | [], _, _, _, _ => cases h5
      | _ :: _ :: _ :: _ :: _, _, _, _, _ => simp at h5
      | [y], .nil, _, h6, _ => unfold chkEs at h6; cases h6
      | [y], .cons e1 (.cons e2 es), _, h6, _ => simp [chkEs] at h6
      | [y, z], .nil, _, h6, _ => unfold chkEs at h6; cases h6
      | [y, z], .cons e1 .nil, _, h6, _ => simp [chkEs] at h6
      | [y, z], .cons e1 (.cons e2 (.cons e3 es)), _, h6, _ => simp [chkEs] at h6
      | [y, z, w], .nil, _, h6, _ => unfold chkEs at h6; cases h6
      | [y, z, w], .cons e1 .nil, _, h6, _ => simp [chkEs] at h6
      | [y, z, w], .cons e1 (.cons e2 .nil), _, h6, _ => simp [chkEs] at h6
      | [y, z, w], .cons e1 (.cons e2 (.cons e3 (.cons e4 es))), _, h6, _ => simp [chkEs] at h6
    · cases h
  | .enu e, S, W, X, l, x, g, h => by
    unfold chkI at h
    split at h
    · rename_i elts kk tpos n p y pos
      obtain ⟨h, h4⟩ := and2 h
      obtain ⟨h, h3⟩ := and2 h
      obtain ⟨h1, h2⟩ := and2 h
      obtain ⟨hg, hm⟩ := blt_of g h1
      have e1 := dec h2
      subst e1
      exact r_enuA hg hm (r_cons (okE e S W X false _ g h4) r_nil (starEach1 h3 [] X.env)) (starEach1 h3 [] X.env)
    · cases h
  | .zip a b, S, W, X, l, x, g, h => by
    unfold chkI at h
    split at h
    · rename_i elts kk tpos n p y z pos
      obtain ⟨h, h6⟩ := and2 h
      obtain ⟨h, h5⟩ := and2 h
      obtain ⟨h, h4⟩ := and2 h
      obtain ⟨h, h3⟩ := and2 h
      obtain ⟨h1, h2⟩ := and2 h
      obtain ⟨hg, hm⟩ := blt_of g h1
      have e1 := dec h2
      subst e1
      exact r_zip hg hm (r_cons (okE a S W X false _ g h5) (r_cons (okE b S W X false _ g h6) r_nil (starEach1 h4 [] X.env)) (starEach1 h3 [z] X.env)) (starEach1 h3 [z] X.env) (backs (by simpa using h4) pos X.env)
    · cases h
  | .items _, _, _, _, _, _, _, h => by unfold chkI at h; cases h
theorem okG : ∀ (gg : Gs) (S : Sx) (B : Cx) (gs : List Comprehension), Good S fx W0 B → B.xe = (fun _ _ => False) → ∀ (elt : Expr) (gens : List Comprehension) (scope : Scope) (pos : Pos) (k : Nat) (elt' : E) (Dl : Addr), (∀ j, gens[k + j]? = gs[j]?) → chkG S gg gs = true → PE B elt (tE B.K fx W0 elt') →
    Lv B Dl elt gens scope pos k (slG gg) (evGs fx gg fun e S => (evE fx elt' e S).bind fun x S => .ok [x] S)
  | .nil, S, B, gs, g, hx, elt, gens, scope, pos, k, elt', Dl, hk, h, he => by
    cases gs with
    | nil => exact lv_last (hk 0) hx he
    | cons y ys => unfold chkG at h; cases h
  | .cons tg it c gg, S, B, gs, g, hx, elt, gens, scope, pos, k, elt', Dl, hk, h, he => by
    unfold chkG at h
    split at h
    · rename_i l i ifs a gs
      obtain ⟨h, h6⟩ := and2 h
      obtain ⟨h, h5⟩ := and2 h
      obtain ⟨h, h4⟩ := and2 h
      obtain ⟨h, h3⟩ := and2 h
      obtain ⟨h1, h2⟩ := and2 h
      have e1 := dec h1
      subst e1
      refine lv_mid (hk 0) hx g.calm (okI it S W0 B l i g h3) (okT tg S W0 B l g h4) (okC c S W0 B ifs g h5) (noSet_of h2 B.env) (okG gg S B gs g hx elt gens scope pos (k + 1) elt' Dl (fun j => ?_) h6 he)
      have := hk (j + 1)
      rw [List.getElem?_cons_succ] at this
      rw [← this]
      congr 1
      omega
    · cases h
theorem okT : ∀ (t : Tg) (S : Sx) (W : WX) (X : Cx) (x : Expr), Good S fx W X → chkT S t x = true → PG X x (tG X.K fx W t)
  | .nm i, S, W, X, x, g, h => by
    unfold chkT at h
    split at h
    · obtain ⟨h, h3⟩ := and2 h
      obtain ⟨h1, h2⟩ := and2 h
      refine r_gnm g.nd (by rw [g.N]; exact dec h1) (g.loc h2) ?_
      rw [Bool.or_eq_true] at h3
      exact h3.elim (fun z => .inl (g.fn _ z)) fun z => .inr (g.pl z)
    · cases h
  | .tup ts, S, W, X, x, g, h => by
    unfold chkT at h
    split at h
    · rename_i xs k p
      obtain ⟨h1, h2⟩ := and2 h
      obtain ⟨h3, h4⟩ := okTs ts S W X xs g h1 h2
      exact r_gtup g.calm h3 (asgEach_len xs X.env) (asgEach_idx h1 X.env) h4
    · cases h
  | .sub o i, S, W, X, x, g, h => by
    unfold chkT at h
    split at h
    · obtain ⟨h, h3⟩ := and2 h
      obtain ⟨h1, h2⟩ := and2 h
      exact r_gsub (okE o S W X false _ g h1) (okE i S W X false _ g h2) (assign_sub h3 _ _ X.env)
    · cases h
  | .fld _ _ _, _, _, _, _, _, h => by unfold chkT at h; cases h
theorem okTs : ∀ (ts : Tgs) (S : Sx) (W : WX) (X : Cx) (xs : List Expr), Good S fx W X → xs.all noStar = true → chkTs S ts xs = true → PGs X xs (tGs X.K fx W ts) ∧ tgsLen ts = xs.length
  | .nil, S, W, X, xs, g, hs, h => by
    cases xs with
    | nil => exact ⟨r_gnil, rfl⟩
    | cons y ys => unfold chkTs at h; cases h
  | .cons t ts, S, W, X, xs, g, hs, h => by
    unfold chkTs at h
    split at h
    · obtain ⟨h1, h2⟩ := and2 h
      rw [List.all_cons, Bool.and_eq_true] at hs
      obtain ⟨h3, h4⟩ := okTs ts S W X _ g hs.2 h2
      exact ⟨okTs_cons hs.1 (okT t S W X _ g h1) h3, by unfold tgsLen; rw [List.length_cons, h4]⟩
    · cases h
end
end
end Rs
end

section
set_option Elab.async false
set_option linter.all false
set_option maxRecDepth 100000
set_option maxHeartbeats 4000000
set_option autoImplicit false
/-! RsChk4: the check of statements, and that it is sound. Own work. -/
namespace Rs
open PySem PySem.Spec PyProof.Rows L2

/-- which names a pair's stores exchange; none: the model doesn't say -/
def swN (sc : Scope) (ts vs : List Expr) : Option (Option (List Str)) :=
  if (!(ts.length == 2 || ts.length == 3) || vs.length != ts.length) = true then some none
  else if (vs.all noStar) = false then some none
  else if ((ts.filterMap fun
    | .Name id pos => if sc.names.lookup id == some .local && pos.line == (ts.head?.map (·.pos.line)).getD 0 then some id else none
    | _ => none).length != ts.length || (ts.filterMap fun
    | .Name id pos => if sc.names.lookup id == some .local && pos.line == (ts.head?.map (·.pos.line)).getD 0 then some id else none
    | _ => none).eraseDups.length != (ts.filterMap fun
    | .Name id pos => if sc.names.lookup id == some .local && pos.line == (ts.head?.map (·.pos.line)).getD 0 then some id else none
    | _ => none).length) = true then some none
  else if vs.all (foldedForSure 8) = true then some none
  else if vs.all (constantsAlone 8) = true then none
  else some (some (ts.filterMap fun
    | .Name id pos => if sc.names.lookup id == some .local && pos.line == (ts.head?.map (·.pos.line)).getD 0 then some id else none
    | _ => none))
theorem any_star (vs : List Expr) : (vs.any fun | .Starred .. => true | _ => false) = !vs.all noStar := by
  induction vs with
  | nil => rfl
  | cons v vs ih =>
    rw [List.any_cons, List.all_cons, ih]
    cases v <;> simp [noStar]
theorem swN_ok {env : Env} (hk : env.scope.kind = .function) {ts vs : List Expr} {kt k2 : Nat} {pt pt2 : Pos} {r : Option (List Str)} (h : swN env.scope ts vs = some r) : swappedStores [.Tuple ts kt pt] (.Tuple vs k2 pt2) env = pure r := by
  have hb : env.blockKind = .function := by unfold Env.blockKind; rw [hk]; rfl
  unfold swN at h
  unfold swappedStores
  simp only [hb]
  have hst := any_star vs
  split at h
  · rename_i c
    cases h
    rw [if_pos (by simpa using c)]
  · rename_i c
    rw [if_neg (by simpa using c)]
    split at h
    · rename_i c2
      cases h
      rw [c2] at hst
      exact if_pos hst
    · rename_i c2
      have c2' : vs.all noStar = true := by simpa using c2
      rw [c2'] at hst
      refine (if_neg (ne_true_of_eq_false hst)).trans ?_
      split at h
      · rename_i c3
        cases h
        exact if_pos c3
      · rename_i c3
        refine (if_neg c3).trans ?_
        split at h
        · rename_i c4
          cases h
          exact if_pos c4
        · rename_i c4
          refine (if_neg c4).trans ?_
          split at h
          · cases h
          · rename_i c5
            cases h
            exact if_neg c5
theorem pl_eq (env : Env) (t : Str) : (env.kindOf t == some NameKind.local) = plB env.scope t := by
  unfold plB
  show (env.scope.names.lookup t == some NameKind.local) = _
  cases env.scope.names.lookup t with
  | none => rfl
  | some k => cases k <;> rfl
theorem sw_eq {env : Env} (hk : env.scope.kind = .function) {elt : Expr} {gs : List Comprehension} {scope : Scope} {pos p : Pos} {t : Str} {l : Nat} : swapsWith (.ListComp elt gs scope pos) (some (.Name t p)) l env = pure (swB env.scope scope t p pos) := by
  have hb : env.blockKind = .function := by unfold Env.blockKind; rw [hk]; rfl
  unfold swapsWith swB
  simp only [hb, pl_eq]
  rfl
/-- no two tuples face each other -/
def noPair (tg v : Expr) : Bool := match tg with
  | .Tuple .. => match v with
    | .Tuple .. => false
    | _ => true
  | .List .. => match v with
    | .Tuple .. => false
    | _ => true
  | _ => true
theorem noPair_of {tg v : Expr} (h : noPair tg v = true) (env : Env) : swappedStores [tg] v env = pure none := by
  cases tg <;> first | rfl | (cases v <;> first | rfl | cases h)
def isNm : Expr → Bool
  | .Name .. => true
  | _ => false
/-- how the pair of a statement's sides is stored -/
def noSw (sc : Scope) (tg v : Expr) : Bool := noPair tg v || match tg, v with
  | .Tuple ts _ _, .Tuple vs _ _ => decide (swN sc ts vs = some none)
  | _, _ => false
theorem noSw_of {env : Env} (hk : env.scope.kind = .function) {tg v : Expr} (h : noSw env.scope tg v = true) : swappedStores [tg] v env = pure none := by
  unfold noSw at h
  rw [Bool.or_eq_true] at h
  rcases h with h | h
  · exact noPair_of h env
  · split at h
    · exact swN_ok hk (dec h)
    · cases h
/-- an exception's arguments: none, or a text -/
def rasA : List Expr → Bool
  | [] => true
  | [.Constant (.str _) _ _] => true
  | _ => false
mutual
def chkS (S : Sx) : C → Stmt → Bool
  | .asg t e, x => match x with
    | .Assign [tg] v pos => noStar tg && ((noComp v && noSw S.sc tg v && chkT S t tg && chkE S false e v) || (match t, tg, v with
      | .nm i, .Name n p, .ListComp y (⟨l, j, ifs, a⟩ :: gs) scope pos2 => match swB S.sc scope n p pos2 with
        | false => locB S.sc n && decide (S.N[i]? = some n) && (S.fnb n || plB S.sc n) && chkE S false e v
        | true => decide (S.N[i]? = some n) && (match e with
          | .mut (.lc own elt tg' it c g) => decide (a = 0) && noSet j && blkC S.N S.sc scope (ownOf S.N own) && sub (slT tg' ++ slG g) own && chkI S it l j && chkT (S.blk scope) tg' l && chkC (S.blk scope) c ifs && chkG (S.blk scope) g gs && chkE (S.blk scope) false elt y
          | .lc own elt tg' it c g => decide (a = 0) && noSet j && blkC S.N S.sc scope (ownOf S.N own) && sub (slT tg' ++ slG g) own && chkI S it l j && chkT (S.blk scope) tg' l && chkC (S.blk scope) c ifs && chkG (S.blk scope) g gs && chkE (S.blk scope) false elt y
          | _ => false)
      | _, _, _ => false))
    | _ => false
  | .par is es, x => match x with
    | .Assign [.Tuple ts kt pt] (.Tuple vs k2 pt2) pos => vs.all noStar && chkEs S es vs && (match is, ts, vs with
      | [i, j], [.Name n _, .Name m _], [_, _] => decide (S.N[i]? = some n) && decide (S.N[j]? = some m) && decide (i ≠ j) && plB S.sc n && plB S.sc m && decide (swN S.sc ts vs = some (some [n, m]))
      | [i, j, l], [.Name n _, .Name m _, .Name o _], [_, _, _] => decide (S.N[i]? = some n) && decide (S.N[j]? = some m) && decide (S.N[l]? = some o) && decide (i ≠ j) && decide (i ≠ l) && decide (j ≠ l) && plB S.sc n && plB S.sc m && plB S.sc o &&
        decide (swN S.sc ts vs = some (some [n, m, o]))
      | _, _, _ => false)
    | _ => false
  | .expr e, x => match x with
    | .Expr v _ => noComp v && chkE S false e v
    | _ => false
  | .ret e, x => match x with
    | .Return (some v) _ => chkE S false e v
    | _ => false
  | .retN, x => match x with
    | .Return none _ => true
    | _ => false
  | .pass, x => match x with
    | .Pass _ => true
    | _ => false
  | .brk, x => match x with
    | .Break _ => true
    | _ => false
  | .cnt, x => match x with
    | .Continue _ => true
    | _ => false
  | .ite c a b, x => match x with
    | .If v p q _ => chkE S true c v && chkSs S a p && chkSs S b q
    | _ => false
  | .whl c b, x => match x with
    | .While v p [] _ => chkE S true c v && chkSs S b p
    | _ => false
  | .fr t it b, x => match x with
    | .For tg i p [] _ => noSet i && chkI S it tg i && chkT S t tg && chkSs S b p
    | _ => false
  | .ras n, x => match x with
    | .Raise (some (.Call (.Name m _) as [] _)) none _ => decide (n = m) && glB S.sc m && m != dbg && rasA as && match S.G m with
      | some .exc => true
      | _ => false
    | _ => false
  | .tri _ _ _ _, _ => false
def chkSs (S : Sx) : Cs → List Stmt → Bool
  | .nil, xs => xs.isEmpty
  | .cons c cs, xs => match xs with
    | y :: ys => chkS S c y && chkSs S cs ys
    | [] => false
end
/-- what holds where a def's body runs -/
structure GoodS (S : Sx) (fx : Fx) (W : WX) (X : Cx) : Prop extends Good S fx W X where
  kind : X.env.scope.kind = .function
  pass : PassesOwn (model X.prog X.w) X.A X.env X.xe
  exc : ∀ x, S.G x = some .exc → Gl X x → (x == dbg) = false → ∀ (p pos2 : Pos) (as : List Expr), rasA as = true → PMk X (.Call (.Name x p) as [] pos2) (fun _ H Q => Q (.ref (He.ga X.K x)) none H)
section
variable {fx : Fx}
mutual
theorem okS : ∀ (c : C) (S : Sx) (W : WX) (X : Cx) (x : Stmt), GoodS S fx W X → chkS S c x = true → PS X x (tS X.K fx W c)
  | .asg t e, S, W, X, x, g, h => by
    unfold chkS at h
    split at h
    · rename_i tg v pos
      have h0 := (and2 h).1
      replace h := (and2 h).2
      rw [Bool.or_eq_true] at h
      rcases h with h | h
      · obtain ⟨h, h4⟩ := and2 h
        obtain ⟨h, h3⟩ := and2 h
        obtain ⟨h1, h2⟩ := and2 h
        rw [← g.sc] at h2
        exact s_asg (okE e S W X false v g.toGood h4) (okT t S W X tg g.toGood h3) (noComp_of h1 _ _ X.env) (noSw_of g.kind h2) (by rw [asgEach1 h0]; rfl)
      · split at h
        · rename_i i n p y l j ifs a gs scope pos2
          split at h
          · rename_i hsw
            obtain ⟨h, h4⟩ := and2 h
            obtain ⟨h, h3⟩ := and2 h
            obtain ⟨h1, h2⟩ := and2 h
            rw [← g.sc] at hsw
            refine s_asg (okE e S W X false _ g.toGood h4) (okT (.nm i) S W X _ g.toGood (by unfold chkT; simp only [h1, h2, h3, Bool.and_self])) ?_ (noPair_of rfl X.env) rfl
            unfold swapsWithSole
            exact (sw_eq g.kind).trans (by rw [hsw])
          · rename_i hsw
            have h1 := (and2 h).1
            replace h := (and2 h).2
            have hsw' := hsw
            rw [← g.sc] at hsw
            have sw : swapsWith (.ListComp y (⟨l, j, ifs, a⟩ :: gs) scope pos2) (some (.Name n p)) pos.line X.env = pure true := by rw [sw_eq g.kind, hsw]
            have hpl : plB S.sc n = true := by
              unfold swB at hsw'
              rw [Bool.and_eq_true, Bool.and_eq_true] at hsw'
              exact hsw'.1.1
            split at h
            · rename_i own elt tg' it c gg
              obtain ⟨h, h9⟩ := and2 h
              obtain ⟨h, h8⟩ := and2 h
              obtain ⟨h, h7⟩ := and2 h
              obtain ⟨h, h6⟩ := and2 h
              obtain ⟨h, h5⟩ := and2 h
              obtain ⟨h, h4⟩ := and2 h
              obtain ⟨h, h3⟩ := and2 h
              obtain ⟨h0, h2⟩ := and2 h
              have e1 := dec h0
              subst e1
              have r := s_setLc (i := i) (py := p) (spos := pos) (own := ownOf S.N own) (fx := fx) (W := W) (elt' := elt) (t' := tg') (it' := it) (c' := c) (g' := gg) g.calm g.nd (by rw [g.N]; exact dec h1) (g.pl hpl) sw (okI it S W X l j g.toGood h5) (blkOk_by (by rw [g.N, g.sc]; exact h3))
                (fun s H C cl fp => by
                  have gb := g.toGood.blk scope s H C cl fp
                  exact ⟨okT tg' _ _ _ _ gb h6, okC c _ _ _ _ gb h7, fun Dl => okG gg _ _ gs gb rfl y (allG l j ifs gs) scope pos2 1 elt Dl (fun j => by rw [Nat.add_comm]; rfl) h8 (okE elt _ _ _ false _ gb h9)⟩)
                (fun j hj => by rw [ownOf_ix]; exact sub_of h4 j hj) (noSet_of h2 X.env)
              rw [ownOf_ix] at r
              exact s_setM r gl_lc
            · rename_i own elt tg' it c gg
              obtain ⟨h, h9⟩ := and2 h
              obtain ⟨h, h8⟩ := and2 h
              obtain ⟨h, h7⟩ := and2 h
              obtain ⟨h, h6⟩ := and2 h
              obtain ⟨h, h5⟩ := and2 h
              obtain ⟨h, h4⟩ := and2 h
              obtain ⟨h, h3⟩ := and2 h
              obtain ⟨h0, h2⟩ := and2 h
              have e1 := dec h0
              subst e1
              have r := s_setLc (i := i) (py := p) (spos := pos) (own := ownOf S.N own) (fx := fx) (W := W) (elt' := elt) (t' := tg') (it' := it) (c' := c) (g' := gg) g.calm g.nd (by rw [g.N]; exact dec h1) (g.pl hpl) sw (okI it S W X l j g.toGood h5) (blkOk_by (by rw [g.N, g.sc]; exact h3))
                (fun s H C cl fp => by
                  have gb := g.toGood.blk scope s H C cl fp
                  exact ⟨okT tg' _ _ _ _ gb h6, okC c _ _ _ _ gb h7, fun Dl => okG gg _ _ gs gb rfl y (allG l j ifs gs) scope pos2 1 elt Dl (fun j => by rw [Nat.add_comm]; rfl) h8 (okE elt _ _ _ false _ gb h9)⟩)
                (fun j hj => by rw [ownOf_ix]; exact sub_of h4 j hj) (noSet_of h2 X.env)
              rw [ownOf_ix] at r
              exact s_setF r gl_lc
            · cases h
        · cases h
    · cases h
  | .par is es, S, W, X, x, g, h => by
    unfold chkS at h
    split at h
    · rename_i ts kt pt vs k2 pt2 pos
      obtain ⟨h, h3⟩ := and2 h
      obtain ⟨h1, h2⟩ := and2 h
      have ha := okEs es S W X vs g.toGood h1 h2
      split at h3
      · obtain ⟨h, k6⟩ := and2 h3
        obtain ⟨h, k5⟩ := and2 h
        obtain ⟨h, k4⟩ := and2 h
        obtain ⟨h, k3⟩ := and2 h
        obtain ⟨k1, k2⟩ := and2 h
        have k6 := dec k6
        rw [← g.sc] at k6
        exact s_par2 g.calm g.nd (by rw [g.N]; exact dec k1) (by rw [g.N]; exact dec k2) (dec k3) (g.pl k4) (g.pl k5) ha (swN_ok g.kind k6) rfl
      · obtain ⟨h, k10⟩ := and2 h3
        obtain ⟨h, k9⟩ := and2 h
        obtain ⟨h, k8⟩ := and2 h
        obtain ⟨h, k7⟩ := and2 h
        obtain ⟨h, k6⟩ := and2 h
        obtain ⟨h, k5⟩ := and2 h
        obtain ⟨h, k4⟩ := and2 h
        obtain ⟨h, k3⟩ := and2 h
        obtain ⟨k1, k2⟩ := and2 h
        have k10 := dec k10
        rw [← g.sc] at k10
        exact s_par3 g.calm g.nd (by rw [g.N]; exact dec k1) (by rw [g.N]; exact dec k2) (by rw [g.N]; exact dec k3) (dec k4) (dec k5) (dec k6) (g.pl k7) (g.pl k8) (g.pl k9) ha (swN_ok g.kind k10) rfl
      · cases h3
    · cases h
  | .expr e, S, W, X, x, g, h => by
    unfold chkS at h
    split at h
    · obtain ⟨h1, h2⟩ := and2 h
      exact s_expr (okE e S W X false _ g.toGood h2) (noComp_of h1 _ _ X.env)
    · cases h
  | .ret e, S, W, X, x, g, h => by
    unfold chkS at h
    split at h
    · exact s_ret (okE e S W X false _ g.toGood h)
    · cases h
  | .retN, S, W, X, x, g, h => by
    unfold chkS at h
    split at h
    · exact s_retN
    · cases h
  | .pass, S, W, X, x, g, h => by
    unfold chkS at h
    split at h
    · exact s_pass
    · cases h
  | .brk, S, W, X, x, g, h => by
    unfold chkS at h
    split at h
    · exact s_brk
    · cases h
  | .cnt, S, W, X, x, g, h => by
    unfold chkS at h
    split at h
    · exact s_cnt
    · cases h
  | .ite c a b, S, W, X, x, g, h => by
    unfold chkS at h
    split at h
    · obtain ⟨h, h3⟩ := and2 h
      obtain ⟨h1, h2⟩ := and2 h
      exact s_ite (okE c S W X true _ g.toGood h1) (okSs a S W X _ g h2) (okSs b S W X _ g h3)
    · cases h
  | .whl c b, S, W, X, x, g, h => by
    unfold chkS at h
    split at h
    · obtain ⟨h1, h2⟩ := and2 h
      exact s_whl g.pass (okE c S W X true _ g.toGood h1) (okSs b S W X _ g h2)
    · cases h
  | .fr t it b, S, W, X, x, g, h => by
    unfold chkS at h
    split at h
    · obtain ⟨h, h4⟩ := and2 h
      obtain ⟨h, h3⟩ := and2 h
      obtain ⟨h1, h2⟩ := and2 h
      exact s_for g.pass g.calm (okI it S W X _ _ g.toGood h2) (okT t S W X _ g.toGood h3) (okSs b S W X _ g h4) (noSet_of h1 X.env)
    · cases h
  | .ras n, S, W, X, x, g, h => by
    unfold chkS at h
    split at h
    · obtain ⟨h, h5⟩ := and2 h
      obtain ⟨h, h4⟩ := and2 h
      obtain ⟨h, h3⟩ := and2 h
      obtain ⟨h1, h2⟩ := and2 h
      have e := dec h1
      subst e
      split at h5
      · rename_i e2
        exact s_ras g.calm g.tk (g.exc _ e2 (g.gl h2) (ne_of_bne h3) _ _ _ h4)
      · cases h5
    · cases h
  | .tri _ _ _ _, _, _, _, _, _, h => by unfold chkS at h; cases h
theorem okSs : ∀ (cs : Cs) (S : Sx) (W : WX) (X : Cx) (xs : List Stmt), GoodS S fx W X → chkSs S cs xs = true → PSs X xs (tSs X.K fx W cs)
  | .nil, S, W, X, xs, g, h => by
    cases xs with
    | nil => exact s_nil
    | cons y ys => unfold chkSs at h; cases h
  | .cons c cs, S, W, X, xs, g, h => by
    unfold chkSs at h
    split at h
    · obtain ⟨h1, h2⟩ := and2 h
      exact s_cons (okS c S W X _ g h1) (okSs cs S W X _ g h2)
    · cases h
end
end
end Rs
end

section
set_option Elab.async false
set_option linter.all false
set_option maxRecDepth 100000
set_option maxHeartbeats 2000000
set_option autoImplicit false
/-! RsDef: defs keep what the evaluator says. Own work over HandS. -/
namespace Rs
open PySem PySem.Spec PyProof.Rows L2

/-! ### back from a def: what it made is forgotten, or frozen -/
def Ads.cut (A : Ads) (n : Nat) : Ads := { A with c := A.c.take n }
section
variable {K : PySem.W.Frag} {A A' : Ads} {H H' : Hp} {S S' : Store} {n : Nat}
theorem cut_live {a : Addr} (h : (A.cut n).live a) : A.live a := by
  rcases h with h | h
  · exact .inl (List.mem_of_mem_take h)
  · exact .inr h
theorem cut_get {k : Nat} (h : k < n) : (A.cut n).c[k]? = A.c[k]? := by
  show (A.c.take n)[k]? = _
  rw [List.getElem?_take]
  rw [if_pos h]
theorem below_all {m : Nat} (ih : ∀ d v, below n m d = true → Rp K H A d v → Rp K H (A.cut n) d v) : ∀ (xs : List D) (vs : List V), xs.all (below n m) = true → Rps K H A xs vs → Rps K H (A.cut n) xs vs
  | [], vs, _, r => by unfold Rps at r ⊢; exact r
  | x :: xs, vs, h, r => by
    rw [List.all_cons, Bool.and_eq_true] at h
    obtain ⟨v, w, rfl, r1, r2⟩ := r.inv
    exact .cons (ih x v h.1 r1) (below_all ih xs w h.2 r2)
theorem below_rp : ∀ (m : Nat) (d : D) (v : V), below n m d = true → Rp K H A d v → Rp K H (A.cut n) d v
  | 0, d, v, h, _ => by cases d <;> cases h
  | m + 1, d, v, h, r => by
    cases d with
    | non => exact r
    | bl b => exact r
    | int i => exact r
    | str i => exact r
    | tup xs =>
      unfold Rp at r ⊢
      obtain ⟨a, vs, e, q, r⟩ := r
      exact ⟨a, vs, e, q, below_all (below_rp m) xs vs h r⟩
    | lst xs =>
      unfold Rp at r ⊢
      obtain ⟨a, vs, e, q, nl, r⟩ := r
      exact ⟨a, vs, e, q, fun z => nl (cut_live z), below_all (below_rp m) xs vs h r⟩
    | dct kvs => cases h
    | ref k =>
      have hk : k < n := of_decide_eq_true h
      unfold Rp at r ⊢
      rw [cut_get hk]
      exact r
    | exc c => unfold Rp at r; exact r.elim
    | scr ns =>
      unfold Rp at r ⊢
      obtain ⟨a, e, q⟩ := r
      refine ⟨a, e, ?_⟩
      rcases q with ⟨q, nl⟩ | q
      · exact .inl ⟨q, fun z => nl (cut_live z)⟩
      · exact .inr q
theorem cell_below {c : Cell} {a : Addr} (h : cellBelow n c = true) (r : CellR K H A a c) : CellR K H (A.cut n) a c := by
  cases c with
  | lst xs =>
    obtain ⟨vs, q, r⟩ := r
    exact ⟨vs, q, below_all (below_rp DEP) xs vs h r⟩
  | dct kvs => cases h
  | dead => trivial
  | ins c fs =>
    obtain ⟨dx, gs, q, hl, r⟩ := r
    refine ⟨dx, gs, q, hl, fun f => ?_⟩
    have z := r f
    cases e : fs.lookup f with
    | none => rw [e] at z; exact z
    | some d =>
      rw [e] at z
      obtain ⟨v, e1, r1⟩ := z
      refine ⟨v, e1, below_rp DEP d v ?_ r1⟩
      have hm : (f, d) ∈ fs := PySem.mem_of_lookup e
      exact List.all_eq_true.mp h (f, d) hm
theorem SR.cut (s : SR K H A S) (hn : n ≤ S.length) (h : (S.take n).all (cellBelow n) = true) : SR K H (A.cut n) (S.take n) := by
  refine ⟨by show (A.c.take n).length = _; rw [List.length_take, List.length_take, s.len], fun i j a h1 h2 => ?_, fun k c a b e1 e2 => ?_, fun a ha => ?_⟩
  · have hi : i < n := by
      have := (List.getElem?_eq_some_iff.mp h1).1
      have h0 : (A.cut n).c.length = min n A.c.length := List.length_take
      omega
    have hj : j < n := by
      have := (List.getElem?_eq_some_iff.mp h2).1
      have h0 : (A.cut n).c.length = min n A.c.length := List.length_take
      omega
    rw [cut_get hi] at h1
    rw [cut_get hj] at h2
    exact s.one i j a h1 h2
  · have hk : k < n := by
      have := (List.getElem?_eq_some_iff.mp e1).1
      rw [List.length_take] at this
      omega
    have e1' : S[k]? = some c := by
      rw [List.getElem?_take, if_pos hk] at e1
      exact e1
    rw [cut_get hk] at e2
    obtain ⟨h1, h2⟩ := s.at_ k c a b e1' e2
    exact ⟨h1, cell_below (List.all_eq_true.mp h c (List.mem_of_getElem? e1)) h2⟩
  · obtain ⟨h1, h2⟩ := s.mak a ha
    exact ⟨h1, fun z => h2 (List.mem_of_mem_take z)⟩
theorem Ext.cut (x : Ext A H A' H') (hn : A.c.length = n) : Ext A H (A'.cut n) H' where
  rd := x.rd
  ls := x.ls
  pre := fun k a b h => by
    have hk : k < n := by rw [← hn]; exact (List.getElem?_eq_some_iff.mp h).1
    rw [cut_get hk]
    exact x.pre k a b h
  new := fun a h => x.new a (cut_live h)
  own := x.own
  ow := x.ow
theorem fz_all {m : Nat} (ih : ∀ d d' v, fzD S n m d = some d' → Rp K H A d v → Rp K H (A.cut n) d' v) : ∀ (xs ys : List D) (vs : List V), xs.mapM (fzD S n m) = some ys → Rps K H A xs vs → Rps K H (A.cut n) ys vs
  | [], ys, vs, h, r => by
    rw [List.mapM_nil] at h
    cases h
    unfold Rps at r ⊢
    exact r
  | x :: xs, ys, vs, h, r => by
    rw [List.mapM_cons] at h
    cases e1 : fzD S n m x with
    | none => rw [e1] at h; cases h
    | some y =>
      rw [e1] at h
      cases e2 : xs.mapM (fzD S n m) with
      | none => rw [e2] at h; cases h
      | some zs =>
        rw [e2] at h
        cases h
        obtain ⟨v, w, rfl, r1, r2⟩ := r.inv
        exact .cons (ih x y v e1 r1) (fz_all ih xs zs w e2 r2)
theorem fz_rp (s : SR K H A S) : ∀ (m : Nat) (d d' : D) (v : V), fzD S n m d = some d' → Rp K H A d v → Rp K H (A.cut n) d' v
  | 0, d, d', v, h, _ => by cases d <;> cases h
  | m + 1, d, d', v, h, r => by
    cases d with
    | non => cases h; exact r
    | bl b => cases h; exact r
    | int i => cases h; exact r
    | str i => cases h; exact r
    | tup xs =>
      obtain ⟨ys, h1, rfl⟩ := Option.map_eq_some_iff.mp (show (xs.mapM (fzD S n m)).map .tup = some d' from h)
      unfold Rp at r ⊢
      obtain ⟨a, vs, e, q, r⟩ := r
      exact ⟨a, vs, e, q, fz_all (fz_rp s m) xs ys vs h1 r⟩
    | lst xs =>
      obtain ⟨ys, h1, rfl⟩ := Option.map_eq_some_iff.mp (show (xs.mapM (fzD S n m)).map .lst = some d' from h)
      unfold Rp at r ⊢
      obtain ⟨a, vs, e, q, nl, r⟩ := r
      exact ⟨a, vs, e, q, fun z => nl (cut_live z), fz_all (fz_rp s m) xs ys vs h1 r⟩
    | dct kvs => cases h
    | ref k =>
      have h : (if k < n then some (.ref k) else match S[k]? with
        | some (.lst xs) => (xs.mapM (fzD S n m)).map .lst
        | _ => none) = some d' := h
      split at h
      · rename_i hk
        cases h
        unfold Rp at r ⊢
        rw [cut_get hk]
        exact r
      · rename_i hk
        split at h
        · rename_i xs eS
          obtain ⟨ys, h1, rfl⟩ := Option.map_eq_some_iff.mp h
          obtain ⟨a, b, ha, rfl⟩ := r.ref
          obtain ⟨a', ha', hc⟩ := s.get eS rfl
          rw [ha] at ha'
          cases ha'
          obtain ⟨vs, hH, hv⟩ := hc
          unfold Rp
          refine ⟨a, vs, rfl, hH, fun z => ?_, fz_all (fz_rp s m) xs ys vs h1 hv⟩
          rcases z with z | z
          · obtain ⟨j, hj⟩ := List.getElem?_of_mem z
            have hjn : j < n := by
              have := (List.getElem?_eq_some_iff.mp hj).1
              have h0 : (A.cut n).c.length = min n A.c.length := List.length_take
              omega
            rw [cut_get hjn] at hj
            have := s.one _ _ _ ha hj
            omega
          · exact (s.mak a z).2 (List.mem_of_getElem? ha)
        · cases h
    | exc c => cases h
    | scr ns =>
      cases h
      unfold Rp at r ⊢
      obtain ⟨a, e, q⟩ := r
      refine ⟨a, e, ?_⟩
      rcases q with ⟨q, nl⟩ | q
      · exact .inl ⟨q, fun z => nl (cut_live z)⟩
      · exact .inr q
end
theorem envR_start {K : PySem.W.Frag} {H : Hp} {A : Ads} {N : List Str} {ds : List D} {vs : List V} (r : Rps K H A ds vs) : EnvR K H A (ds.map some ++ List.replicate (N.length - ds.length) none) (L2.start N vs) := by
  have hl := r.length
  unfold L2.start
  refine ⟨by simp [hl], fun i d e => ?_⟩
  by_cases hi : i < ds.length
  · rw [List.getElem?_append_left (by simpa using hi), List.getElem?_map] at e
    obtain ⟨d', e1, e2⟩ := Option.map_eq_some_iff.mp e
    cases e2
    obtain ⟨v, ev, rv⟩ := r.get e1
    refine ⟨v, ?_, rv⟩
    rw [List.getElem?_append_left (by rw [List.length_map, ← hl]; exact hi), List.getElem?_map, ev]
    rfl
  · rw [List.getElem?_append_right (by simpa using hi), List.getElem?_replicate] at e
    split at e <;> cases e
/-- a call's result from its body's -/
theorem body_call {K : PySem.W.Frag} {fx : Fx} {fn : Fn} {ds : List D} {S : Store} {A : Ads} {H : Hp} {E : XK} {Q : VK} {N : List Str} (hn : N.length = fn.nn) (hS : SR K H A S)
    (h : RP K (fun c d _ H => E c d H) [] A H (callFn fx fn ds S) Q) : ds.length = fn.np ∧ RSt K (fun c d _ H => E c d H) A H (evCs fx fn.body (ds.map some ++ List.replicate (N.length - ds.length) none) S) { nx := fun _ H' => Q .non H', rt := Q } := by
  unfold callFn at h
  split at h
  · rename_i hl
    refine ⟨hl, ?_⟩
    rw [← hn] at h
    cases r : evCs fx fn.body (ds.map some ++ List.replicate (N.length - ds.length) none) S with
    | bad => rw [r] at h; exact h.elim
    | exc c env S' =>
      rw [r] at h
      simp only [] at h
      split at h
      · exact fun σ' H' A' x s _ => h A' H' x s
      · split at h
        · rename_i hb
          intro σ' H' A' x s _
          have hl : S.length ≤ S'.length := by
            rw [← hS.len, ← s.len]
            apply Nat.le_of_not_lt
            intro hlt
            obtain ⟨b', z⟩ := x.pre A'.c.length _ _ (List.getElem?_eq_getElem hlt)
            rw [List.getElem?_eq_none (Nat.le_refl _)] at z
            cases z
          exact h (A'.cut S.length) H' (x.cut hS.len) (s.cut hl hb)
        · exact h.elim
    | ok f S' =>
      rw [r] at h
      have key : ∀ d : D, RP K (fun c d _ H => E c d H) [] A H (if fn.keep = true then .ok d S' else match fzD S' S.length DEP d with
          | some d' => if (S'.take S.length).all (cellBelow S.length) then .ok d' (S'.take S.length) else .bad
          | none => .bad) Q → Out K A H S' d Q := by
        intro d h v H' A' x s rv
        split at h
        · exact h v H' A' x s rv
        · split at h
          · rename_i d' e
            split at h
            · rename_i hb
              have hl : S.length ≤ S'.length := by
                rw [← hS.len, ← s.len]
                apply Nat.le_of_not_lt
                intro hlt
                obtain ⟨b', z⟩ := x.pre A'.c.length _ _ (List.getElem?_eq_getElem hlt)
                rw [List.getElem?_eq_none (Nat.le_refl _)] at z
                cases z
              exact h v H' (A'.cut S.length) (x.cut hS.len) (s.cut hl hb) (fz_rp s DEP d d' v e rv)
            · exact h.elim
          · exact h.elim
      cases f with
      | rt d => exact key d h
      | nx env => exact fun σ' H' A' x s _ => key .non h .non H' A' x s rp_non
      | bk env => exact h.elim
      | ct env => exact h.elim
  · exact h.elim
end Rs
end

section
set_option Elab.async false
set_option linter.all false
set_option maxRecDepth 100000
set_option maxHeartbeats 2000000
set_option autoImplicit false
/-! RsLib: a table of defs keeps what the evaluator says; the head that finds them. Own work over HandS. -/
namespace Rs
open PySem PySem.Spec PyProof.Rows L2

/-- a def of the text, its names, its term -/
structure DefR where
  d : He.DefD
  N : List Str
  ps : List Str
  fn : Fn
structure DefOk (G : Str → Option GK) (r : DefR) : Prop where
  sc : FnScope r.N r.ps r.d.scope
  chk : chkSs ⟨r.N, r.d.scope, fun _ => true, G⟩ r.fn.body r.d.body = true
  np : r.ps.length = r.fn.np
  nn : r.N.length = r.fn.nn
  dfl : r.d.dfl = []
  kwd : r.d.kwd = []
  at_ : r.d.at_ = (r.d.name, none)
  binds : ∀ (kV doc pm : Value) (an : Option Addr) (cdv ct : Value) (us : List Value), us.length = r.ps.length → bindArgs (PySem.W.fnOf r.d.name r.d.qual r.d.params r.d.body r.d.scope .none kV doc pm an cdv ct) ⟨us, []⟩ = pure (r.ps.zip us)
/-- what is known of the module -/
structure Fct (K : PySem.W.Frag) (mg : Str → Option Value) (G : Str → Option GK) (rs : List DefR) : Prop where
  sm : SysM K
  blt : ∀ x, G x = some .blt → mg x = none
  int : ∀ x i, G x = some (.int i) → ∃ t, mg x = some (.int i t)
  str : ∀ x i, G x = some (.str i) → ∃ t, mg x = some (.str i t)
  exc : ∀ x, G x = some .exc → mg x = some (.ref (He.ga K x)) ∧ (∃ bm, PySem.W.excIn K (He.ga K x) bm "ValueError.__new__" = true ∧ (∃ B newId initId, ExcBaseFacts B newId initId bm ∧ newId = "ValueError.__new__")) ∧ PySem.W.keepIn K (.ref (He.ga K x)) = true ∧
    PySem.W.subIn K (.ref (He.ga K x)) (.type "BaseException") = some true ∧ PySem.W.typeIn K (.ref (He.ga K x)) = some (.type "type")
  fns : ∀ x i, G x = some (.fn i) → ∃ r fd, rs[i]? = some r ∧ r.d.name = x ∧ mg x = some (.ref (He.ga K x)) ∧ FunD K r.d.name r.d.qual r.d.params r.d.body r.d.scope [] [] (He.ga K x) fd
section
variable {P : Program} {w : World} {K : PySem.W.Frag} {mg : Str → Option Value} {base : Heap} {G : Str → Option GK} {rs : List DefR} {sub : Str → Str → Option Bool}
theorem bindsAll_of {r : DefR} (o : DefOk G r) {f : Addr} {fd : FuncData} (F : FunD K r.d.name r.d.qual r.d.params r.d.body r.d.scope [] [] f fd) : BindsAll K fd r.ps := by
  obtain ⟨oc, od, dV, kV, doc, pm, an, cdv, ct, osl, rfl, lk, hcd, hD, hK⟩ := F.ex
  rcases hD with ⟨_, rfl⟩ | ⟨e, _⟩
  · exact fun us hl => o.binds kV doc pm an cdv ct us hl
  · exact absurd rfl e
theorem all_G (ok : ∀ r ∈ rs, DefOk G r) (F : Fct K mg G rs) : ∀ (k i : Nat) (r : DefR) (f : Addr) (fd : FuncData), rs[i]? = some r → FunD K r.d.name r.d.qual r.d.params r.d.body r.d.scope [] [] f fd →
    GOk P w K mg base k f fd r.ps (spR K (run (rs.map (·.fn)) sub k i))
  | 0, i, r, f, fd, hi, D => by
    refine ⟨fun vs H Q E h => ?_, fun A out s H args us vs Q E hr hgd e0 hb rv h => ?_⟩
    · obtain ⟨ds, A, S, r1, s1, h1⟩ := h
      unfold run at h1
      exact h1.elim
    · obtain ⟨ds, A, S, r1, s1, h1⟩ := h
      unfold run at h1
      exact h1.elim
  | k + 1, i, r, f, fd, hi, D => by
    have o := ok r (List.mem_of_getElem? hi)
    have hT : (rs.map (·.fn))[i]? = some r.fn := by rw [List.getElem?_map, hi]; rfl
    have conv : ∀ {vs : List V} {H : Hp} {Q : VK} {E : XK}, spR K (run (rs.map (·.fn)) sub (k + 1) i) vs H Q E → ∃ ds A S, Rps K H A ds vs ∧ SR K H A S ∧ RP K (fun c d _ H => E c d H) [] A H (callFn ⟨run (rs.map (·.fn)) sub k, sub⟩ r.fn ds S) Q := by
      rintro vs H Q E ⟨ds, A, S, r1, s1, h1⟩
      unfold run at h1
      rw [hT] at h1
      exact ⟨ds, A, S, r1, s1, h1⟩
    refine def_G D o.sc (fun vs H Q E h => ?_) (fun cd A out s H vs Q E hr hgd h => ?_)
    · obtain ⟨ds, A, S, r1, s1, h1⟩ := conv h
      rw [← r1.length, (body_call o.nn s1 h1).1, o.np]
    · obtain ⟨ds, A1, S, r1, s1, h1⟩ := conv h
      refine ⟨tSs K ⟨run (rs.map (·.fn)) sub k, sub⟩ (fun c d _ H => E c d H) r.fn.body, ?_, ⟨_, A1, S, envR_start r1, s1, (body_call o.nn s1 h1).2⟩⟩
      refine okSs (fx := ⟨run (rs.map (·.fn)) sub k, sub⟩) r.fn.body ⟨r.N, r.d.scope, fun _ => true, G⟩ _ _ _ ?_ o.chk
      refine ⟨⟨rfl, o.sc.nd, rfl, fun _ _ => rfl, rfl, ?_, hgd, takes_of rfl rfl rfl rfl, F.sm, F.blt, F.int, F.str, fun x j hx => ?_⟩, o.sc.kind, passes_of rfl, fun x hx hg hd p pos2 as has => ?_⟩
      · have := hr.un
        show (A.deeper _).units + 65 < cLine
        omega
      · obtain ⟨r2, fd2, h2, h3, h4, h5⟩ := F.fns x j hx
        have o2 := ok r2 (List.mem_of_getElem? h2)
        exact ⟨k, _, fd2, r2.ps, all_G ok F k j r2 _ fd2 h2 h5, hr, h4, h5.kp, bindsAll_of o2 h5⟩
      · obtain ⟨e1, ⟨bm, e2, B, newId, initId, e3, rfl⟩, e4, e5, e6⟩ := F.exc x hx
        unfold rasA at has
        split at has
        · exact pmk_own0 e3 e2 e1 e4 (raises_own e5 e6) hg hd
        · exact pmk_own e3 e2 e1 e4 (raises_own e5 e6) hg hd
        · cases has
end

/-! ### the head's hook, with the table of modules -/
def asR (g : Addr → Option Obj) (n : Nat) : List Addr := sysModules :: He.asG g n
def smB (K : PySem.W.Frag) : Bool := match K.lookup sysModules with
  | some ⟨.type c, _, _, _⟩ => decide (c = "dict")
  | _ => false
def obsR (fa : List He.Fa) (fn : List He.DefD) (K : PySem.W.Frag) : He.AlD := (smB K && ((fa.all fun f => f.ok K) && fn.all fun d => d.ok K), fn.map fun d => He.fnW K d.at_)
def SaysR (fa : List He.Fa) (fn : List He.DefD) (K : PySem.W.Frag) : Prop := obsR fa fn K = He.valD fn
def obsRG (n : Nat) (fa : List He.Fa) (fn : List He.DefD) (g : Addr → Option Obj) : He.AlD := obsR fa fn (He.frG g (asR g n))
def hookR (n : Nat) (fa : List He.Fa) (fn : List He.DefD) : PySem.W.Hook where
  α := He.AlD
  obs := fun s => obsRG n fa fn s.heap.get?
  val := fun _ => He.valD fn
  says := fun _ h => ∃ K : PySem.W.Frag, K.In h ∧ SaysR fa fn K
  of := fun _ _ e => ⟨_, He.frG_in, e⟩
  keeps := fun _ _ _ ⟨K, hK, c⟩ k => ⟨K, PySem.W.Frag.In.keeps hK k, c⟩
theorem obsRG_eq {n : Nat} {fa : List He.Fa} {fn : List He.DefD} {g : Addr → Option Obj} {s : Shared} (h : ∀ a, g a = s.heap.get? a) : obsRG n fa fn g = (hookR n fa fn).obs s := by
  have e : g = s.heap.get? := funext h
  rw [e] <;> rfl
section
variable {fa : List He.Fa} {fn : List He.DefD} {K : PySem.W.Frag}
theorem SaysR.all (c : SaysR fa fn K) : smB K = true ∧ (∀ f ∈ fa, f.ok K = true) ∧ ∀ d ∈ fn, d.ok K = true := by
  have h : (smB K && ((fa.all fun f => f.ok K) && fn.all fun d => d.ok K)) = true := congrArg (fun z : He.AlD => z.1) c
  obtain ⟨h1, h⟩ := and2 h
  obtain ⟨h2, h3⟩ := and2 h
  exact ⟨h1, List.all_eq_true.mp h2, List.all_eq_true.mp h3⟩
theorem SaysR.def_ (c : SaysR fa fn K) {d : He.DefD} (h : d ∈ fn) : ∃ fd, FunD K d.name d.qual d.params d.body d.scope (d.dvs K) (d.kws K) (He.fAd K d.at_) fd := by
  have e : fn.map (fun d => He.fnW K d.at_) = fn.map He.DefD.val := congrArg (fun z : He.AlD => z.2) c
  obtain ⟨i, hi⟩ := List.getElem?_of_mem h
  have e2 : (fn.map fun d => He.fnW K d.at_)[i]? = (fn.map He.DefD.val)[i]? := by rw [e]
  rw [List.getElem?_map, List.getElem?_map, hi] at e2
  exact He.DefD.funD (Option.some.inj e2) (c.all.2.2 d h)
theorem SaysR.sm (c : SaysR fa fn K) : SysM K := by
  have h := c.all.1
  unfold smB at h
  split at h
  · rename_i t d dt sl e
    exact ⟨_, e, congrArg Value.type (dec h)⟩
  · cases h
end
/-- what the module's names are, as a list -/
def gOf (l : List (Str × GK)) : Str → Option GK := fun x => l.lookup x
def faOf : Str × GK → He.Fa
  | (x, .blt) => .free x
  | (x, .int i) => .int x i
  | (x, .str z) => .str x z
  | (x, .fn _) => .glo x
  | (x, .exc) => .glo x
def isExc : Str × GK → Bool
  | (_, .exc) => true
  | _ => false
/-- the facts that the hook is to tell -/
def fasOf (l : List (Str × GK)) : List He.Fa := l.map faOf ++ (l.filter isExc).map fun p => .exc p.1
def fnIx (rs : List DefR) : Str × GK → Bool
  | (x, .fn i) => match rs[i]? with
    | some r => decide (r.d.name = x)
    | none => false
  | _ => true
theorem fct_of {l : List (Str × GK)} {rs : List DefR} {K : PySem.W.Frag} {h : Heap} {mg : Str → Option Value} (X : K.In h) (G : h.Ns mainGlobals mg) (c : SaysR (fasOf l) (rs.map (·.d)) K) (ok : ∀ r ∈ rs, DefOk (gOf l) r) (hix : l.all (fnIx rs) = true) : Fct K mg (gOf l) rs := by
  obtain ⟨c1, c2, c3⟩ := c.all
  have mem : ∀ {x : Str} {k : GK}, gOf l x = some k → (x, k) ∈ l := fun e => PySem.mem_of_lookup e
  have fact : ∀ {x : Str} {k : GK}, gOf l x = some k → (faOf (x, k)).ok K = true := fun e => c2 _ (List.mem_append_left _ (List.mem_map_of_mem (mem e)))
  refine ⟨c.sm, fun x e => He.free_ok X G (fact e), fun x i e => He.int_ok X G (fact e), fun x i e => He.str_ok X G (fact e), fun x e => ?_, fun x i e => ?_⟩
  · have q : (He.Fa.exc x).ok K = true := c2 _ (List.mem_append_right _ (List.mem_map.mpr ⟨(x, .exc), List.mem_filter.mpr ⟨mem e, rfl⟩, rfl⟩))
    obtain ⟨q1, q2, q3, q4⟩ := He.exc_ok q
    exact ⟨He.glo_ok X G (fact e), ⟨_, q1, _, _, _, PySem.F.excBase_ValueError, rfl⟩, q2, q3, q4⟩
  · have q := List.all_eq_true.mp hix _ (mem e)
    unfold fnIx at q
    cases hr : rs[i]? with
    | none => simp only [hr] at q; cases q
    | some r =>
      simp only [hr] at q
      have hn : r.d.name = x := dec q
      have o := ok r (List.mem_of_getElem? hr)
      obtain ⟨fd, F⟩ := c.def_ (d := r.d) (List.mem_map_of_mem (List.mem_of_getElem? hr))
      refine ⟨r, fd, rfl, hn, He.glo_ok X G (fact e), ?_⟩
      have e1 : r.d.dvs K = [] := by unfold He.DefD.dvs; rw [o.dfl]; rfl
      have e2 : r.d.kws K = [] := by unfold He.DefD.kws; rw [o.kwd]; rfl
      have e3 : He.fAd K r.d.at_ = He.ga K x := by rw [o.at_, hn]; rfl
      rw [e1, e2, e3] at F
      exact F

/-- the law's promise, of a script -/
theorem sp_law {K : PySem.W.Frag} {r : List D → Store → R D} {H : Hp} {a : Addr} {ns : List Int} {S' : Store} (hS : SqL K H a (ns.map V.int)) (h : r [.scr ns] [] = .ok (.bl true) S') : spR K r [.ref a] H (fun v _ => v = .bl true) fun _ _ _ => False := by
  refine ⟨[.scr ns], ⟨[], []⟩, [], .cons ?_ .nil, ⟨rfl, fun i j b h1 _ => by simp at h1, fun k c b t h1 _ => by simp at h1, fun b hb => by simp at hb⟩, ?_⟩
  · unfold Rp
    refine ⟨a, rfl, ?_⟩
    rcases hS with hS | hS
    · refine .inl ⟨hS, fun z => ?_⟩
      rcases z with z | z <;> simp at z
    · exact .inr fun H' => .inr hS
  · rw [h]
    exact fun v H' A' _ _ r => r.bl
/-- a law of the table -/
def Says (T : List Fn) (sub : Str → Str → Option Bool) (k i n : Nat) : Prop := ∀ ns : List Int, ns.length ≤ n → (∀ i ∈ ns, Builtin.Int.intBits i ≤ 1048576) → ∃ S, run T sub k i [.scr ns] [] = .ok (.bl true) S
theorem table_F {P : Program} {l : List (Str × GK)} {rs : List DefR} {sub : Str → Str → Option Bool} {k i n : Nat} {x : Str} {r : DefR} (ok : ∀ r ∈ rs, DefOk (gOf l) r) (hix : l.all (fnIx rs) = true) (hl : gOf l r.d.name = some (.fn i)) (hr : rs[i]? = some r) (hp : r.ps = [x]) (says : Says (rs.map (·.fn)) sub k i n)
    (w : World) (mg : Str → Option Value) (fa : Addr) (h : Heap) (Y : ∃ K : PySem.W.Frag, K.In h ∧ SaysR (fasOf l) (rs.map (·.d)) K) (hG : h.Ns mainGlobals mg) (hm : mg r.d.name = some (.ref fa)) :
    ∃ (K : PySem.W.Frag) (fd : FuncData) (sp : Sp), K.In h ∧ (∀ (s : Shared) (u : Value), BindsTo s fd ⟨[u], []⟩ [(x, u)]) ∧
      (∀ (H : Hp) (a : Addr) (ns : List Int), ns.length ≤ n → (∀ i ∈ ns, Builtin.Int.intBits i ≤ 1048576) → Only H → SqL K H a (ns.map V.int) → sp [.ref a] H (fun v _ => v = .bl true) fun _ _ _ => False) ∧
      ∀ base : Heap, K.In base → base.Ns mainGlobals mg → GOk P w K mg base k fa fd [x] sp := by
  obtain ⟨K, kin, c⟩ := Y
  have F := fct_of kin hG c ok hix
  obtain ⟨r2, fd, h2, h3, h4, h5⟩ := F.fns _ _ hl
  rw [hr] at h2
  cases h2
  have e : fa = He.ga K r.d.name := by
    rw [hm] at h4
    cases h4
    rfl
  subst e
  have o := ok r (List.mem_of_getElem? hr)
  have b := bindsAll_of o h5
  refine ⟨K, fd, spR K (run (rs.map (·.fn)) sub k i), kin, fun s u => ?_, fun H a ns hn hb _ hS => ?_, fun base hB hN => ?_⟩
  · have z := b.to (s := s) (us := [u]) (by rw [hp]; rfl)
    rw [hp] at z
    exact z
  · obtain ⟨S', e⟩ := says ns hn hb
    exact sp_law hS e
  · have g := all_G (P := P) (w := w) (base := base) (sub := sub) ok F k i r _ fd hr h5
    rw [hp] at g
    exact g
end Rs
end

section
set_option Elab.async false
set_option linter.all false
set_option maxRecDepth 100000
set_option maxHeartbeats 1000000
set_option autoImplicit false
/-! RsPure: plain lemmas on the evaluator: calls, loops, the drawing pen. Own work. -/
namespace Rs
open PySem

/-- a store whose cells name no cell beyond -/
def OKS (S : Store) : Prop := S.all (cellBelow S.length) = true
/-- data without cells, not too deep -/
def cln : Nat → D → Bool
  | 0, _ => false
  | m + 1, .tup xs => xs.all (cln m)
  | m + 1, .lst xs => xs.all (cln m)
  | _, .dct _ => false
  | _, .ref _ => false
  | _, .exc _ => false
  | _, _ => true
theorem cln_map {S : Store} {n m : Nat} (ih : ∀ d, cln m d = true → fzD S n m d = some d) : ∀ xs : List D, xs.all (cln m) = true → xs.mapM (fzD S n m) = some xs
  | [], _ => rfl
  | x :: xs, h => by
    rw [List.all_cons, Bool.and_eq_true] at h
    rw [List.mapM_cons, ih x h.1, cln_map ih xs h.2]
    rfl
theorem fz_cln {S : Store} {n : Nat} : ∀ (m : Nat) (d : D), cln m d = true → fzD S n m d = some d
  | 0, d, h => by cases d <;> cases h
  | m + 1, d, h => by
    cases d with
    | tup xs => show (xs.mapM (fzD S n m)).map D.tup = _; rw [cln_map (fz_cln m) xs h]; rfl
    | lst xs => show (xs.mapM (fzD S n m)).map D.lst = _; rw [cln_map (fz_cln m) xs h]; rfl
    | dct kvs => cases h
    | ref k => cases h
    | exc c => cases h
    | _ => rfl
/-- a def is called; the store it leaves is as long -/
theorem call_ok {T : List Fn} {sub : Str → Str → Option Bool} {k i : Nat} {fn : Fn} {ds : List D} {S S' : Store} {d : D} (hT : T[i]? = some fn) (hl : ds.length = fn.np) (hk : fn.keep = false) (hs : OKS S') (hlen : S'.length = S.length) (hd : cln DEP d = true)
    (h : evCs ⟨run T sub k, sub⟩ fn.body (ds.map some ++ List.replicate (fn.nn - ds.length) none) S = .ok (.rt d) S') : run T sub (k + 1) i ds S = .ok d S' := by
  unfold run
  rw [hT]
  show callFn _ fn ds S = _
  unfold callFn
  rw [if_pos hl, h]
  simp only [hk, ↓reduceIte, Bool.false_eq_true]
  rw [fz_cln DEP d hd]
  have e : S'.take S.length = S' := by rw [← hlen]; exact List.take_length
  rw [e, ← hlen]
  exact if_pos hs
theorem call_non {T : List Fn} {sub : Str → Str → Option Bool} {k i : Nat} {fn : Fn} {ds : List D} {S S' : Store} {env : Nv} (hT : T[i]? = some fn) (hl : ds.length = fn.np) (hk : fn.keep = false) (hs : OKS S') (hlen : S'.length = S.length)
    (h : evCs ⟨run T sub k, sub⟩ fn.body (ds.map some ++ List.replicate (fn.nn - ds.length) none) S = .ok (.nx env) S') : run T sub (k + 1) i ds S = .ok .non S' := by
  unfold run
  rw [hT]
  show callFn _ fn ds S = _
  unfold callFn
  rw [if_pos hl, h]
  simp only [hk, ↓reduceIte, Bool.false_eq_true]
  have e : S'.take S.length = S' := by rw [← hlen]; exact List.take_length
  rw [e, ← hlen]
  exact if_pos hs

theorem call_keep {T : List Fn} {sub : Str → Str → Option Bool} {k i : Nat} {fn : Fn} {ds : List D} {S S' : Store} {d : D} (hT : T[i]? = some fn) (hl : ds.length = fn.np) (hk : fn.keep = true)
    (h : evCs ⟨run T sub k, sub⟩ fn.body (ds.map some ++ List.replicate (fn.nn - ds.length) none) S = .ok (.rt d) S') : run T sub (k + 1) i ds S = .ok d S' := by
  unfold run
  rw [hT]
  show callFn _ fn ds S = _
  unfold callFn
  rw [if_pos hl, h]
  simp only [hk, ↓reduceIte]
/-! ### the pen -/
def b_draw : Cs := (.cons (.ite (.cmp .gt (.ix (.var 0) (.cst (.int 0))) (.cst (.int 0))) (.cons (.asg (.nm 3) (.bop .mod (.ix (.var 0) (.cst (.int 0))) (.var 1))) (.cons (.asg (.sub (.var 0) (.cst (.int 0))) (.bop .fdiv (.ix (.var 0) (.cst (.int 0))) (.var 1))) (.cons (.ret (.var 3)) .nil))) .nil) (.cons (.asg (.sub (.var 0) (.cst (.int 2))) (.bop .add (.ix (.var 0) (.cst (.int 2))) (.cst (.int 1)))) (.cons (.asg (.sub (.var 0) (.cst (.int 1))) (.bop .mod (.bop .add (.bop .add (.bop .mul (.ix (.var 0) (.cst (.int 1))) (.cst (.int 48271))) (.bop .mul (.cst (.int 1009)) (.ix (.var 0) (.cst (.int 2))))) (.cst (.int 7))) (.cst (.int 2147483647)))) (.cons (.asg (.nm 2) (.bop .mod (.bop .add (.bop .add (.bop .mul (.ix (.var 0) (.cst (.int 1))) (.ix (.var 0) (.cst (.int 1)))) (.bop .mul (.cst (.int 69621)) (.ix (.var 0) (.cst (.int 1))))) (.cst (.int 11))) (.cst (.int 2147483629)))) (.cons (.asg (.nm 2) (.bop .mod (.bop .add (.bop .mul (.var 2) (.var 2)) (.bop .mul (.cst (.int 40014)) (.var 2))) (.cst (.int 2147483587)))) (.cons (.ret (.bop .mod (.bop .fdiv (.var 2) (.cst (.int 16))) (.var 1))) .nil))))))
def PenAt (S : Store) (p : Nat) : Prop := ∃ a b c : Int, S[p]? = some (.lst [.int a, .int b, .int c])
structure Pn (S : Store) (p : Nat) : Prop where
  ok : OKS S
  at_ : PenAt S p
theorem oks_set {S : Store} {p : Nat} {c : Cell} (h : OKS S) (hc : ∀ n, cellBelow n c = true) : OKS (S.set p c) := by
  unfold OKS at h ⊢
  rw [List.length_set]
  rw [List.all_eq_true] at h ⊢
  intro x hx
  rcases List.mem_or_eq_of_mem_set hx with hx | rfl
  · exact h x hx
  · exact hc _
theorem pen_below (a b c : Int) (n : Nat) : cellBelow n (.lst [.int a, .int b, .int c]) = true := by
  unfold cellBelow
  rfl
theorem ix3_0 (a b c : D) (i : Int) (h : i = 0) : L2.atI [a, b, c] i = some a := by subst h; rfl
theorem mulOk_r {i j : Int} (h : -18446744073709551616 < j ∧ j < 18446744073709551616) : mulOk i j = true := by
  unfold mulOk BIG
  rw [decide_eq_true h.1, decide_eq_true h.2]
  simp
theorem mulOk_l {i j : Int} (h : -18446744073709551616 < i ∧ i < 18446744073709551616) : mulOk i j = true := by
  unfold mulOk BIG
  rw [decide_eq_true h.1, decide_eq_true h.2]
  simp
theorem draw_ok {T : List Fn} {sub : Str → Str → Option Bool} {k i p : Nat} {S : Store} {m : Int} (hT : T[i]? = some ⟨2, 4, false, b_draw⟩) (hS : Pn S p) (h0 : 0 < m) (h1 : m < 1073741824) :
    ∃ (v : Int) (S' : Store), run T sub (k + 1) i [.ref p, .int m] S = .ok (.int v) S' ∧ 0 ≤ v ∧ v < m ∧ Pn S' p ∧ S'.length = S.length := by
  obtain ⟨ok, a, b, c, hp⟩ := hS
  have hlt : p < S.length := (List.getElem?_eq_some_iff.mp hp).1
  by_cases ha : a > 0
  · refine ⟨a % m, S.set p (.lst [.int (a / m), .int b, .int c]), call_ok hT rfl rfl (oks_set ok (pen_below _ _ _)) (by simp) rfl ?_, Int.emod_nonneg _ (by omega), Int.emod_lt_of_pos _ h0, ⟨oks_set ok (pen_below _ _ _), _, _, _, List.getElem?_set_self hlt⟩, by simp⟩
    simp [b_draw, evCs, evC, evE, RS.of, R.bind, R.of, getV, bops, cops, gtO, modD, fdivD, ixD, seqOf, view, hp, truth, bindT, h0, h1, ha, L2.atI, L2.ixN]
  · have e1 : 0 ≤ (b * 48271 + 1009 * (c + 1) + 7) % 2147483647 := Int.emod_nonneg _ (by decide)
    have e2 : (b * 48271 + 1009 * (c + 1) + 7) % 2147483647 < 2147483647 := Int.emod_lt_of_pos _ (by decide)
    have h48 : mulOk b 48271 = true := mulOk_r (by decide)
    have h10 : mulOk 1009 (c + 1) = true := mulOk_l (by decide)
    have hbb := mulOk_r (i := (b * 48271 + 1009 * (c + 1) + 7) % 2147483647) (j := (b * 48271 + 1009 * (c + 1) + 7) % 2147483647) ⟨by omega, by omega⟩
    have h69 : mulOk 69621 ((b * 48271 + 1009 * (c + 1) + 7) % 2147483647) = true := mulOk_l (by decide)
    generalize hq : (b * 48271 + 1009 * (c + 1) + 7) % 2147483647 = q at e1 e2 hbb h69
    have e3 : 0 ≤ (q * q + 69621 * q + 11) % 2147483629 := Int.emod_nonneg _ (by decide)
    have e4 : (q * q + 69621 * q + 11) % 2147483629 < 2147483629 := Int.emod_lt_of_pos _ (by decide)
    have hrr := mulOk_r (i := (q * q + 69621 * q + 11) % 2147483629) (j := (q * q + 69621 * q + 11) % 2147483629) ⟨by omega, by omega⟩
    have h40 : mulOk 40014 ((q * q + 69621 * q + 11) % 2147483629) = true := mulOk_l (by decide)
    generalize hr : (q * q + 69621 * q + 11) % 2147483629 = r at e3 e4 hrr h40
    refine ⟨(r * r + 40014 * r) % 2147483587 / 16 % m, S.set p (.lst [.int a, .int q, .int (c + 1)]), call_ok hT rfl rfl (oks_set ok (pen_below _ _ _)) (by simp) rfl ?_, Int.emod_nonneg _ (by omega), Int.emod_lt_of_pos _ h0, ⟨oks_set ok (pen_below _ _ _), _, _, _, List.getElem?_set_self hlt⟩, by simp⟩
    have hset : ∀ c : Cell, (S.set p c)[p]? = some c := fun c => List.getElem?_set_self hlt
    clear hlt
    simp [b_draw, evCs, evC, evE, RS.of, R.bind, R.of, getV, bops, cops, gtO, modD, mulD, addD, fdivD, ixD, seqOf, view, hp, truth, bindT, h0, h1, ha, L2.atI, L2.ixN, hset, h48, h10, hq, hbb, h69, hr, hrr, h40, List.set_set]
end Rs
end

section
set_option Elab.async false
set_option linter.all false
set_option maxRecDepth 100000
set_option maxHeartbeats 1000000
set_option autoImplicit false
/-! RsPure2: loops and comprehensions of the evaluator, plainly. Own work. -/
namespace Rs
open PySem

theorem compL_flat {f : D → Store → R (List D)} {S : Store} (G : D → List D) : ∀ (ds : List D), (∀ d ∈ ds, f d S = .ok (G d) S) → compL f ds S = .ok (ds.flatMap G) S
  | [], _ => rfl
  | d :: ds, h => by
    unfold compL
    rw [h d List.mem_cons_self]
    simp only [compL_flat G ds fun e he => h e (List.mem_cons_of_mem _ he)]
    rfl
theorem flat_map {α β : Type} (g : α → β) : ∀ l : List α, l.flatMap (fun d => [g d]) = l.map g
  | [] => rfl
  | x :: l => by rw [List.flatMap_cons, flat_map g l]; rfl
theorem flat_filter {α β : Type} (p : α → Bool) (g : α → β) : ∀ l : List α, l.flatMap (fun d => if p d = true then [g d] else []) = (l.filter p).map g
  | [] => rfl
  | x :: l => by
    rw [List.flatMap_cons, flat_filter p g l, List.filter_cons]
    by_cases h : p x = true
    · rw [if_pos h, if_pos h]; rfl
    · rw [if_neg h, if_neg h]; rfl
theorem ev_lc {X : Fx} {own : List Nat} {elt : E} {t : Tg} {it : It} {c : Es} {g : Gs} {env : Nv} {S S1 : Store} {ds : List D} (G : D → List D) (hi : evIt X it env S = .ok ds S1)
    (h : ∀ d ∈ ds, ((bindT X t d (wipeE env own) S1).bind fun env1 S => (evTs X c env1 S).bind fun b S => match b with
      | true => evGs X g (fun e S => (evE X elt e S).bind fun x S => .ok [x] S) env1 S
      | false => .ok [] S) = .ok (G d) S1) (hl : (ds.flatMap G).length ≤ LIM) : evE X (.lc own elt t it c g) env S = .ok (.lst (ds.flatMap G)) S1 := by
  unfold evE
  rw [hi]
  show (match compL _ ds S1 with
    | .ok ds S => if ds.length ≤ LIM then R.ok (D.lst ds) S else .bad
    | _ => .bad) = _
  rw [compL_flat G ds h]
  exact if_pos hl
/-- a comprehension whose turns may change the store -/
theorem ev_lcS {X : Fx} {own : List Nat} {elt : E} {t : Tg} {it : It} {c : Es} {g : Gs} {env : Nv} {S S1 S2 : Store} {ds M : List D} (hi : evIt X it env S = .ok ds S1)
    (h : ∀ f : D → Store → R (List D), (∀ d S, f d S = (bindT X t d (wipeE env own) S).bind fun env1 S => (evTs X c env1 S).bind fun b S => if b = true then evGs X g (fun e S => (evE X elt e S).bind fun x S => .ok [x] S) env1 S else .ok [] S) → compL f ds S1 = .ok M S2)
    (hl : M.length ≤ LIM) : evE X (.lc own elt t it c g) env S = .ok (.lst M) S2 := by
  unfold evE
  rw [hi]
  show (match compL _ ds S1 with
    | .ok ds S => if ds.length ≤ LIM then R.ok (D.lst ds) S else .bad
    | _ => .bad) = _
  rw [h _ fun d S => by
    congr 1
    funext env1 S
    congr 1
    funext b S
    cases b <;> rfl]
  exact if_pos hl
/-- [elt for x in ..] -/
theorem ev_map {X : Fx} {i : Nat} {elt : E} {it : It} {env : Nv} {S S1 : Store} {ds : List D} (g : D → D) (hi : evIt X it env S = .ok ds S1) (h : ∀ d ∈ ds, evE X elt ((env.set i none).set i (some d)) S1 = .ok (g d) S1) (hl : ds.length ≤ LIM) :
    evE X (.lc [i] elt (.nm i) it .nil .nil) env S = .ok (.lst (ds.map g)) S1 := by
  have := ev_lc (X := X) (own := [i]) (elt := elt) (t := .nm i) (it := it) (c := .nil) (g := .nil) (env := env) (fun d => [g d]) hi (fun d hd => by
    unfold bindT evTs evGs
    show ((evE X elt ((env.set i none).set i (some d)) S1).bind fun x S => .ok [x] S) = _
    rw [h d hd]
    rfl) (by rw [flat_map]; simpa using hl)
  rw [flat_map] at this
  exact this
/-- [elt for x in .. if q] -/
theorem ev_filter {X : Fx} {i : Nat} {elt q : E} {it : It} {env : Nv} {S S1 : Store} {ds : List D} (p : D → Bool) (g : D → D) (hi : evIt X it env S = .ok ds S1) (hq : ∀ d ∈ ds, ∃ z, evE X q ((env.set i none).set i (some d)) S1 = .ok z S1 ∧ truth S1 z = some (p d))
    (h : ∀ d ∈ ds, p d = true → evE X elt ((env.set i none).set i (some d)) S1 = .ok (g d) S1) (hl : ds.length ≤ LIM) : evE X (.lc [i] elt (.nm i) it (.cons q .nil) .nil) env S = .ok (.lst ((ds.filter p).map g)) S1 := by
  have := ev_lc (X := X) (own := [i]) (elt := elt) (t := .nm i) (it := it) (c := .cons q .nil) (g := .nil) (env := env) (fun d => if p d = true then [g d] else []) hi (fun d hd => by
    obtain ⟨z, hz, ht⟩ := hq d hd
    unfold bindT evTs evGs
    show ((R.bind (evE X q ((env.set i none).set i (some d)) S1) fun b S => R.of (truth S b) S).bind fun b S => match b with
      | true => (evE X elt ((env.set i none).set i (some d)) S).bind fun x S => .ok [x] S
      | false => .ok [] S) = _
    rw [hz]
    show (R.bind (R.of (truth S1 z) S1) fun b S => match b with
      | true => (evE X elt ((env.set i none).set i (some d)) S).bind fun x S => .ok [x] S
      | false => .ok [] S) = _
    rw [ht]
    by_cases hp : p d = true
    · rw [hp, if_pos rfl]
      show ((evE X elt ((env.set i none).set i (some d)) S1).bind fun x S => .ok [x] S) = _
      rw [h d hd hp]
      rfl
    · have hp' : p d = false := by simpa using hp
      rw [hp', if_neg Bool.false_ne_true]
      rfl) (by rw [flat_filter, List.length_map]; exact Nat.le_trans (List.length_filter_le _ _) hl)
  rw [flat_filter] at this
  exact this
theorem bltsD_map : ∀ bs : List Bool, bltsD (bs.map .bl) = some bs
  | [] => rfl
  | b :: r => by rw [List.map_cons]; unfold bltsD; rw [bltsD_map r]; rfl
theorem intsD_map : ∀ ns : List Int, intsD (ns.map .int) = some ns
  | [] => rfl
  | b :: r => by rw [List.map_cons]; unfold intsD; rw [intsD_map r]; rfl
theorem allD_map {α : Type} (p : α → Bool) (l : List α) (S : Store) : allD S [.lst (l.map fun x => .bl (p x))] = some (.bl (l.all p)) := by
  have e : (l.map fun x => D.bl (p x)) = (l.map p).map .bl := by rw [List.map_map]; rfl
  unfold allD
  rw [e]
  show (bltsD ((l.map p).map .bl)).map _ = _
  rw [bltsD_map]
  show some (D.bl ((l.map p).all id)) = _
  congr 2
  rw [List.all_map]
  rfl
end Rs
end

section
set_option Elab.async false
set_option linter.all false
set_option maxRecDepth 100000
set_option maxHeartbeats 4000000
set_option autoImplicit false
/-! RsBase: the program's small defs and what they give on good fields and lots. Own work; printed by mkbase.py. -/
namespace Rs
open PySem

def c_is_whole : Cs := (.cons (.ret (.and (.isi (.var 0) .int) (.not (.isi (.var 0) .bool)))) .nil)
def c_is_among (i_is_whole : Nat) : Cs := (.cons (.ret (.and (.call i_is_whole (.cons (.var 0) .nil)) (.chn .le .le (.var 1) (.var 0) (.var 2)))) .nil)
def c_are_some : Cs := (.cons (.ret (.and (.isi (.var 0) .tup) (.chn .le .le (.var 1) (.blt .len (.cons (.var 0) .nil)) (.var 2)))) .nil)
def c_are_numbers (i_is_among : Nat) : Cs := (.cons (.ite (.or (.not (.isi (.var 0) .tup)) (.not (.blt .all (.cons (.lc [2] (.call i_is_among (.cons (.var 2) (.cons (.cst (.int 0)) (.cons (.bop .sub (.var 1) (.cst (.int 1))) .nil)))) (.nm 2) (.of (.var 0)) .nil .nil) .nil)))) (.cons (.ret (.cst (.bl false))) .nil) .nil) (.cons (.ret (.blt .all (.cons (.lc [2, 3] (.cmp .lt (.var 2) (.var 3)) (.tup (.cons (.nm 2) (.cons (.nm 3) .nil))) (.zip (.var 0) (.sl (.var 0) (.cons (.cst (.int 1)) .nil) .nil)) .nil .nil) .nil))) .nil))
def c_is_place (i_are_some : Nat) (i_is_among : Nat) : Cs := (.cons (.ret (.and (.call i_are_some (.cons (.var 0) (.cons (.cst (.int 2)) (.cons (.cst (.int 2)) .nil)))) (.blt .all (.cons (.lc [1] (.call i_is_among (.cons (.var 1) (.cons (.cst (.int 0)) (.cons (.glo (Str.ofString "FARTHEST") (.int 40)) .nil)))) (.nm 1) (.of (.var 0)) .nil .nil) .nil)))) .nil)
def c_bend : Cs := (.cons (.ret (.bop .sub (.bop .mul (.bop .sub (.ix (.var 1) (.cst (.int 0))) (.ix (.var 0) (.cst (.int 0)))) (.bop .sub (.ix (.var 2) (.cst (.int 1))) (.ix (.var 0) (.cst (.int 1))))) (.bop .mul (.bop .sub (.ix (.var 1) (.cst (.int 1))) (.ix (.var 0) (.cst (.int 1)))) (.bop .sub (.ix (.var 2) (.cst (.int 0))) (.ix (.var 0) (.cst (.int 0))))))) .nil)
def c_threes : Cs := (.cons (.ret (.lc [1, 2, 3] (.tup (.cons (.var 1) (.cons (.var 2) (.cons (.var 3) .nil)))) (.nm 1) (.rng (.cons (.var 0) .nil)) .nil (.cons (.nm 2) (.rng (.cons (.bop .add (.var 1) (.cst (.int 1))) (.cons (.var 0) .nil))) .nil (.cons (.nm 3) (.rng (.cons (.bop .add (.var 2) (.cst (.int 1))) (.cons (.var 0) .nil))) .nil .nil)))) .nil)
def c_is_field (i_are_some : Nat) (i_is_place : Nat) (i_bend : Nat) (i_threes : Nat) : Cs := (.cons (.ite (.or (.not (.call i_are_some (.cons (.var 0) (.cons (.cst (.int 1)) (.cons (.glo (Str.ofString "MOST_STAKES") (.int 8)) .nil))))) (.not (.blt .all (.cons (.lc [4] (.call i_is_place (.cons (.var 4) .nil)) (.nm 4) (.of (.var 0)) .nil .nil) .nil)))) (.cons (.ret (.cst (.bl false))) .nil) .nil) (.cons (.ite (.cmp .lt (.blt .lenset (.cons (.var 0) .nil)) (.blt .len (.cons (.var 0) .nil))) (.cons (.ret (.cst (.bl false))) .nil) .nil) (.cons (.ret (.blt .all (.cons (.lc [1, 2, 3] (.cmp .ne (.call i_bend (.cons (.ix (.var 0) (.var 1)) (.cons (.ix (.var 0) (.var 2)) (.cons (.ix (.var 0) (.var 3)) .nil)))) (.cst (.int 0))) (.tup (.cons (.nm 1) (.cons (.nm 2) (.cons (.nm 3) .nil)))) (.of (.call i_threes (.cons (.blt .len (.cons (.var 0) .nil)) .nil))) .nil .nil) .nil))) .nil)))
def c_need_field (i_is_field : Nat) : Cs := (.cons (.ite (.not (.call i_is_field (.cons (.var 0) .nil))) (.cons (.ras (Str.ofString "NoField")) .nil) .nil) .nil)
def c_is_lot (i_need_field : Nat) (i_are_numbers : Nat) : Cs := (.cons (.expr (.call i_need_field (.cons (.var 0) .nil))) (.cons (.ret (.call i_are_numbers (.cons (.var 1) (.cons (.blt .len (.cons (.var 0) .nil)) .nil)))) .nil))
def c_need_lot (i_is_lot : Nat) : Cs := (.cons (.ite (.not (.call i_is_lot (.cons (.var 0) (.cons (.var 1) .nil)))) (.cons (.ras (Str.ofString "NoLot")) .nil) .nil) .nil)
def c_need_stake (i_is_whole : Nat) : Cs := (.cons (.ite (.or (.not (.call i_is_whole (.cons (.var 1) .nil))) (.cmp .nin (.var 1) (.var 0))) (.cons (.ras (Str.ofString "NoStake")) .nil) .nil) .nil)
def c_side (i_bend : Nat) : Cs := (.cons (.asg (.nm 4) (.call i_bend (.cons (.ix (.var 0) (.var 1)) (.cons (.ix (.var 0) (.var 2)) (.cons (.ix (.var 0) (.var 3)) .nil))))) (.cons (.ret (.bop .sub (.blt .int (.cons (.cmp .gt (.var 4) (.cst (.int 0))) .nil)) (.blt .int (.cons (.cmp .lt (.var 4) (.cst (.int 0))) .nil)))) .nil))
def c_less : Cs := (.cons (.ret (.blt .tuple (.cons (.lc [2] (.var 2) (.nm 2) (.of (.var 0)) (.cons (.cmp .ne (.var 2) (.var 1)) .nil) .nil) .nil))) .nil)
def c__law_bend : Cs := (.cons (.asg (.nm 3) (.bop .mul (.bop .sub (.ix (.var 1) (.cst (.int 0))) (.ix (.var 0) (.cst (.int 0)))) (.bop .sub (.ix (.var 2) (.cst (.int 1))) (.ix (.var 0) (.cst (.int 1)))))) (.cons (.ret (.bop .sub (.var 3) (.bop .mul (.bop .sub (.ix (.var 1) (.cst (.int 1))) (.ix (.var 0) (.cst (.int 1)))) (.bop .sub (.ix (.var 2) (.cst (.int 0))) (.ix (.var 0) (.cst (.int 0))))))) .nil))
def c__law_is_free (i__law_bend : Nat) : Cs := (.cons (.ite (.cmp .isin (.var 1) (.var 0)) (.cons (.ret (.cst (.bl false))) .nil) .nil) (.cons (.fr (.tup (.cons (.nm 2) (.cons (.nm 3) .nil))) (.enu (.var 0)) (.cons (.ite (.cmp .ne (.lc [4] (.cst (.int 1)) (.nm 4) (.of (.sl (.var 0) (.cons (.bop .add (.var 2) (.cst (.int 1))) .nil) .nil)) (.cons (.cmp .eq (.call i__law_bend (.cons (.var 3) (.cons (.var 4) (.cons (.var 1) .nil)))) (.cst (.int 0))) .nil) .nil) (.lst .nil)) (.cons (.ret (.cst (.bl false))) .nil) .nil) .nil)) (.cons (.ret (.cst (.bl true))) .nil)))
def c__law_field (i__law_draw : Nat) (i__law_is_free : Nat) : Cs := (.cons (.par [3, 4] (.cons (.ix (.lst (.cons (.cst (.int 3)) (.cons (.cst (.int 6)) (.cons (.cst (.int 12)) (.cons (.cst (.int 40)) .nil))))) (.call i__law_draw (.cons (.var 0) (.cons (.cst (.int 4)) .nil)))) (.cons (.bop .add (.cst (.int 1)) (.call i__law_draw (.cons (.var 0) (.cons (.var 1) .nil)))) .nil))) (.cons (.par [4, 5] (.cons (.ix (.lst (.cons (.var 4) (.cons (.var 1) .nil))) (.call i__law_draw (.cons (.var 0) (.cons (.cst (.int 2)) .nil)))) (.cons (.tup .nil) .nil))) (.cons (.fr (.nm 2) (.rng (.cons (.bop .mul (.cst (.int 3)) (.var 1)) .nil)) (.cons (.asg (.nm 6) (.tup (.cons (.call i__law_draw (.cons (.var 0) (.cons (.bop .add (.var 3) (.cst (.int 1))) .nil))) (.cons (.call i__law_draw (.cons (.var 0) (.cons (.bop .add (.var 3) (.cst (.int 1))) .nil))) .nil)))) (.cons (.ite (.cmp .eq (.call i__law_draw (.cons (.var 0) (.cons (.cst (.int 5)) .nil))) (.cst (.int 0))) (.cons (.asg (.nm 6) (.tup (.cons (.ix (.var 6) (.cst (.int 0))) (.cons (.ix (.lst (.cons (.cst (.int 0)) (.cons (.var 3) .nil))) (.call i__law_draw (.cons (.var 0) (.cons (.cst (.int 2)) .nil)))) .nil)))) .nil) .nil) (.cons (.ite (.and (.cmp .lt (.blt .len (.cons (.var 5) .nil)) (.var 4)) (.call i__law_is_free (.cons (.var 5) (.cons (.var 6) .nil)))) (.cons (.asg (.nm 5) (.bop .add (.var 5) (.tup (.cons (.var 6) .nil)))) .nil) .nil) .nil)))) (.cons (.ret (.var 5)) .nil))))
def c__law_lot (i__law_draw : Nat) : Cs := (.cons (.asg (.nm 2) (.rng false (.cons (.blt .len (.cons (.var 1) .nil)) .nil))) (.cons (.ret (.ix (.lst (.cons (.var 2) (.cons (.var 2) (.cons (.blt .tuple (.cons (.lc [3] (.var 3) (.nm 3) (.of (.var 2)) (.cons (.cmp .gt (.call i__law_draw (.cons (.var 0) (.cons (.cst (.int 4)) .nil))) (.cst (.int 0))) .nil) .nil) .nil)) .nil)))) (.call i__law_draw (.cons (.var 0) (.cons (.cst (.int 3)) .nil))))) .nil))
def c__law_cell_at : Cs := (.cons (.ite (.cmp .lt (.var 1) (.blt .len (.cons (.var 0) .nil))) (.cons (.ret (.ix (.var 0) (.var 1))) .nil) .nil) (.cons (.ret (.cst (.int 0))) .nil))
def c__law_pen : Cs := (.cons (.ret (.mut (.lst (.cons (.blt .max (.cons (.cst (.int 0)) (.cons (.bop .sub (.var 0) (.bop .pow (.cst (.int 10)) (.cst (.int 18)))) .nil))) (.cons (.bop .add (.bop .mod (.var 0) (.cst (.int 2147483629))) (.cst (.int 1))) (.cons (.cst (.int 0)) .nil)))))) .nil)
def c__law_draw : Cs := (.cons (.ite (.cmp .gt (.ix (.var 0) (.cst (.int 0))) (.cst (.int 0))) (.cons (.asg (.nm 3) (.bop .mod (.ix (.var 0) (.cst (.int 0))) (.var 1))) (.cons (.asg (.sub (.var 0) (.cst (.int 0))) (.bop .fdiv (.ix (.var 0) (.cst (.int 0))) (.var 1))) (.cons (.ret (.var 3)) .nil))) .nil) (.cons (.asg (.sub (.var 0) (.cst (.int 2))) (.bop .add (.ix (.var 0) (.cst (.int 2))) (.cst (.int 1)))) (.cons (.asg (.sub (.var 0) (.cst (.int 1))) (.bop .mod (.bop .add (.bop .add (.bop .mul (.ix (.var 0) (.cst (.int 1))) (.cst (.int 48271))) (.bop .mul (.cst (.int 1009)) (.ix (.var 0) (.cst (.int 2))))) (.cst (.int 7))) (.cst (.int 2147483647)))) (.cons (.asg (.nm 2) (.bop .mod (.bop .add (.bop .add (.bop .mul (.ix (.var 0) (.cst (.int 1))) (.ix (.var 0) (.cst (.int 1)))) (.bop .mul (.cst (.int 69621)) (.ix (.var 0) (.cst (.int 1))))) (.cst (.int 11))) (.cst (.int 2147483629)))) (.cons (.asg (.nm 2) (.bop .mod (.bop .add (.bop .mul (.var 2) (.var 2)) (.bop .mul (.cst (.int 40014)) (.var 2))) (.cst (.int 2147483587)))) (.cons (.ret (.bop .mod (.bop .fdiv (.var 2) (.cst (.int 16))) (.var 1))) .nil))))))
def c__law_same : Cs := (.cons (.ret (.cmp .eq (.blt .repr (.cons (.var 0) .nil)) (.blt .repr (.cons (.var 1) .nil)))) .nil)
/-! ### data -/
def pD (p : Int × Int) : D := .tup [.int p.1, .int p.2]
def fD (F : List (Int × Int)) : D := .tup (F.map pD)
def lD (L : List Int) : D := .tup (L.map .int)
def bendI (p q r : Int × Int) : Int := (q.1 - p.1) * (r.2 - p.2) - (q.2 - p.2) * (r.1 - p.1)
def inBox (p : Int × Int) : Prop := (0 ≤ p.1 ∧ p.1 ≤ 40) ∧ 0 ≤ p.2 ∧ p.2 ≤ 40
/-- a field -/
structure GF (F : List (Int × Int)) : Prop where
  pos : 1 ≤ F.length
  few : F.length ≤ 8
  box : ∀ p ∈ F, inBox p
  nd : F.Nodup
  free : ∀ (a b c : Nat) (p q r : Int × Int), F[a]? = some p → F[b]? = some q → F[c]? = some r → a < b → b < c → bendI p q r ≠ 0
theorem cln_ints : ∀ (L : List Int) (m : Nat), (L.map D.int).all (cln (m + 1)) = true
  | [], _ => rfl
  | x :: L, m => by rw [List.map_cons, List.all_cons, cln_ints L m]; rfl
theorem cln_lD (L : List Int) (m : Nat) : cln (m + 2) (lD L) = true := cln_ints L m
theorem cln_pairs : ∀ (F : List (Int × Int)) (m : Nat), (F.map pD).all (cln (m + 2)) = true
  | [], _ => rfl
  | x :: F, m => by rw [List.map_cons, List.all_cons, cln_pairs F m]; rfl
theorem cln_fD (F : List (Int × Int)) (m : Nat) : cln (m + 3) (fD F) = true := cln_pairs F m
section
variable {T : List Fn} {sub : Str → Str → Option Bool} {S : Store}
theorem is_whole_ok {i k : Nat} (hT : T[i]? = some ⟨1, 1, false, c_is_whole⟩) (hs : OKS S) (n : Int) : run T sub (k + 1) i [.int n] S = .ok (.bl true) S :=
  call_ok hT rfl rfl hs rfl rfl (by simp [c_is_whole, evCs, evC, evE, evEs, evIt, evTs, evGs, evPt, bindT, bindTs, RS.of, R.bind, R.of, getV, bops, cops, addD, subD, mulD, modD, fdivD, powD, ltO, leO, gtO, geO, truth, ixD, seqOf, view, bltD, lenD, maxD, intD, isi, L2.atI, L2.ixN, setAll, tgsLen, wipeE, slT, slTs, slG])
theorem is_among_ok {i j k : Nat} (hT : T[i]? = some ⟨3, 3, false, c_is_among j⟩) (hW : T[j]? = some ⟨1, 1, false, c_is_whole⟩) (hs : OKS S) {n lo hi : Int} (h1 : lo ≤ n) (h2 : n ≤ hi) : run T sub (k + 2) i [.int n, .int lo, .int hi] S = .ok (.bl true) S := by
  have e := is_whole_ok (sub := sub) (k := k) hW hs n
  exact call_ok hT rfl rfl hs rfl rfl (by simp [c_is_among, evCs, evC, evE, evEs, evIt, evTs, evGs, evPt, bindT, bindTs, RS.of, R.bind, R.of, getV, bops, cops, addD, subD, mulD, modD, fdivD, powD, ltO, leO, gtO, geO, truth, ixD, seqOf, view, bltD, lenD, maxD, intD, isi, L2.atI, L2.ixN, setAll, tgsLen, wipeE, slT, slTs, slG, e, h1, h2])
theorem are_some_ok {i k : Nat} (hT : T[i]? = some ⟨3, 3, false, c_are_some⟩) (hs : OKS S) {xs : List D} {lo hi : Int} (h1 : lo ≤ xs.length) (h2 : (xs.length : Int) ≤ hi) : run T sub (k + 1) i [.tup xs, .int lo, .int hi] S = .ok (.bl true) S :=
  call_ok hT rfl rfl hs rfl rfl (by simp [c_are_some, evCs, evC, evE, evEs, evIt, evTs, evGs, evPt, bindT, bindTs, RS.of, R.bind, R.of, getV, bops, cops, addD, subD, mulD, modD, fdivD, powD, ltO, leO, gtO, geO, truth, ixD, seqOf, view, bltD, lenD, maxD, intD, isi, L2.atI, L2.ixN, setAll, tgsLen, wipeE, slT, slTs, slG, h1, h2])
theorem lim_le {n m : Nat} (h : n ≤ m) (hm : m ≤ 100000) : n ≤ LIM := Nat.le_trans h hm
theorem is_place_ok {i i1 i2 i3 k : Nat} (hT : T[i]? = some ⟨1, 2, false, c_is_place i1 i2⟩) (h1 : T[i1]? = some ⟨3, 3, false, c_are_some⟩) (h2 : T[i2]? = some ⟨3, 3, false, c_is_among i3⟩) (h3 : T[i3]? = some ⟨1, 1, false, c_is_whole⟩) (hs : OKS S) {p : Int × Int} (hp : inBox p) :
    run T sub (k + 3) i [pD p] S = .ok (.bl true) S := by
  have e1 := are_some_ok (sub := sub) (k := k + 1) h1 hs (xs := [.int p.1, .int p.2]) (lo := 2) (hi := 2) (by simp) (by simp)
  have e2 := is_among_ok (sub := sub) (k := k) h2 h3 hs hp.1.1 hp.1.2
  have e3 := is_among_ok (sub := sub) (k := k) h2 h3 hs hp.2.1 hp.2.2
  exact call_ok hT rfl rfl hs rfl rfl (by simp [c_is_place, pD, evCs, evC, evE, evEs, evIt, evTs, evGs, evPt, bindT, bindTs, RS.of, R.bind, R.of, getV, bops, cops, addD, subD, mulD, modD, fdivD, powD, ltO, leO, gtO, geO, truth, ixD, seqOf, view, bltD, lenD, maxD, intD, isi, L2.atI, L2.ixN, setAll, tgsLen, wipeE, slT, slTs, slG, e1, compL, e2, e3, LIM, allD, bltsD])
theorem mul_box {a b c d : Int} (h1 : 0 ≤ a ∧ a ≤ 40) (h2 : 0 ≤ b ∧ b ≤ 40) : mulOk (a - b) (c - d) = true := mulOk_l ⟨by omega, by omega⟩
theorem bend_ok {i k : Nat} (hT : T[i]? = some ⟨3, 3, false, c_bend⟩) (hs : OKS S) {p q r : Int × Int} (hp : inBox p) (hq : inBox q) : run T sub (k + 1) i [pD p, pD q, pD r] S = .ok (.int (bendI p q r)) S := by
  have m1 := mul_box (c := r.2) (d := p.2) hq.1 hp.1
  have m2 := mul_box (c := r.1) (d := p.1) hq.2 hp.2
  exact call_ok hT rfl rfl hs rfl rfl (by simp [c_bend, pD, bendI, evCs, evC, evE, evEs, evIt, evTs, evGs, evPt, bindT, bindTs, RS.of, R.bind, R.of, getV, bops, cops, addD, subD, mulD, modD, fdivD, powD, ltO, leO, gtO, geO, truth, ixD, seqOf, view, bltD, lenD, maxD, intD, isi, L2.atI, L2.ixN, setAll, tgsLen, wipeE, slT, slTs, slG, m1, m2])
theorem lbend_ok {i k : Nat} (hT : T[i]? = some ⟨3, 4, false, c__law_bend⟩) (hs : OKS S) {p q r : Int × Int} (hp : inBox p) (hq : inBox q) : run T sub (k + 1) i [pD p, pD q, pD r] S = .ok (.int (bendI p q r)) S := by
  have m1 := mul_box (c := r.2) (d := p.2) hq.1 hp.1
  have m2 := mul_box (c := r.1) (d := p.1) hq.2 hp.2
  exact call_ok hT rfl rfl hs rfl rfl (by simp [c__law_bend, pD, bendI, evCs, evC, evE, evEs, evIt, evTs, evGs, evPt, bindT, bindTs, RS.of, R.bind, R.of, getV, bops, cops, addD, subD, mulD, modD, fdivD, powD, ltO, leO, gtO, geO, truth, ixD, seqOf, view, bltD, lenD, maxD, intD, isi, L2.atI, L2.ixN, setAll, tgsLen, wipeE, slT, slTs, slG, m1, m2])
/-! ### threes, fields -/
def tD (t : Nat × Nat × Nat) : D := .tup [.int t.1, .int t.2.1, .int t.2.2]
def thr (n : Nat) : List (Nat × Nat × Nat) := (List.range n).flatMap fun a => (List.range n).flatMap fun b => (List.range n).filterMap fun c => if a < b ∧ b < c then some (a, b, c) else none
theorem thr_mem {n : Nat} {t : Nat × Nat × Nat} (h : t ∈ thr n) : t.1 < t.2.1 ∧ t.2.1 < t.2.2 ∧ t.2.2 < n := by
  unfold thr at h
  simp only [List.mem_flatMap, List.mem_filterMap, List.mem_range] at h
  obtain ⟨a, ha, b, hb, c, hc, h⟩ := h
  split at h
  · rename_i q
    cases h
    exact ⟨q.1, q.2, hc⟩
  · cases h
theorem threes_ok {i k : Nat} (hT : T[i]? = some ⟨1, 4, false, c_threes⟩) (hs : OKS S) {n : Nat} (hn : n ≤ 8) : run T sub (k + 1) i [.int n] S = .ok (.lst ((thr n).map tD)) S := by
  rcases n with _ | _ | _ | _ | _ | _ | _ | _ | _ | n
  · exact call_ok hT rfl rfl hs rfl rfl rfl
  · exact call_ok hT rfl rfl hs rfl rfl rfl
  · exact call_ok hT rfl rfl hs rfl rfl rfl
  · exact call_ok hT rfl rfl hs rfl rfl rfl
  · exact call_ok hT rfl rfl hs rfl rfl rfl
  · exact call_ok hT rfl rfl hs rfl rfl rfl
  · exact call_ok hT rfl rfl hs rfl rfl rfl
  · exact call_ok hT rfl rfl hs rfl rfl rfl
  · exact call_ok hT rfl rfl hs rfl rfl rfl
  · omega
theorem distinct_pairs : ∀ F : List (Int × Int), F.Nodup → distinct (F.map pD) = F.length
  | [], _ => rfl
  | p :: F, h => by
    have hn := List.nodup_cons.mp h
    have e : anyEq (pD p) (F.map pD) = false := by
      unfold anyEq
      rw [List.any_eq_false]
      intro d hd
      obtain ⟨q, hq, rfl⟩ := List.mem_map.mp hd
      intro he
      have : p = q := by
        have h2 : (q.1 == p.1 && (q.2 == p.2 && true)) = true := by simpa [pD, eqv, eqvs] using he
        simp only [Bool.and_true, Bool.and_eq_true, beq_iff_eq] at h2
        exact Prod.ext h2.1.symm h2.2.symm
      exact hn.1 (by rw [this]; exact hq)
    rw [List.map_cons]
    unfold distinct
    rw [e, distinct_pairs F hn.2, if_neg Bool.false_ne_true]
    rfl
theorem pairs_pairI : ∀ F : List (Int × Int), (F.map pD).all pairI = true
  | [] => rfl
  | p :: F => by rw [List.map_cons, List.all_cons, pairs_pairI F]; rfl
theorem lenset_fD {F : List (Int × Int)} (g : GF F) : lensetD S [fD F] = some (.int F.length) := by
  have h : (F.map pD).length < 60 := by rw [List.length_map]; have := g.few; omega
  show (if (decide ((F.map pD).length < 60) && (F.map pD).all pairI) = true then some (D.int (distinct (F.map pD))) else none) = _
  rw [distinct_pairs F g.nd, pairs_pairI, decide_eq_true h]
  rfl
theorem atI_fD {F : List (Int × Int)} {a : Nat} {p : Int × Int} (h : F[a]? = some p) : L2.atI (F.map pD) (a : Int) = some (pD p) := by
  exact L2.atI_nat (by rw [List.getElem?_map, h]; rfl)
theorem is_field_ok {i i1 i2 i3 i4 j1 j2 k : Nat} (hT : T[i]? = some ⟨1, 5, false, c_is_field i1 i2 i3 i4⟩) (h1 : T[i1]? = some ⟨3, 3, false, c_are_some⟩) (h2 : T[i2]? = some ⟨1, 2, false, c_is_place i1 j1⟩) (h3 : T[i3]? = some ⟨3, 3, false, c_bend⟩)
    (h4 : T[i4]? = some ⟨1, 4, false, c_threes⟩) (hj1 : T[j1]? = some ⟨3, 3, false, c_is_among j2⟩) (hj2 : T[j2]? = some ⟨1, 1, false, c_is_whole⟩) (hs : OKS S) {F : List (Int × Int)} (g : GF F) : run T sub (k + 4) i [fD F] S = .ok (.bl true) S := by
  have hlen : (F.map pD).length = F.length := List.length_map ..
  have hfew := g.few
  have hpos := g.pos
  have e1 := are_some_ok (sub := sub) (k := k + 2) h1 hs (xs := F.map pD) (lo := 1) (hi := 8) (by omega) (by omega)
  have e2 : evE ⟨run T sub (k + 3), sub⟩ (.lc [4] (.call i2 (.cons (.var 4) .nil)) (.nm 4) (.of (.var 0)) .nil .nil) [some (fD F), none, none, none, none] S = .ok (.lst ((F.map pD).map fun _ => .bl true)) S :=
    ev_map (fun _ => .bl true) rfl (fun d hd => by
      obtain ⟨p, hp, rfl⟩ := List.mem_map.mp hd
      have := is_place_ok (sub := sub) (k := k) h2 h1 hj1 hj2 hs (g.box p hp)
      simp [evE, evEs, R.bind, R.of, getV, this]) (by rw [hlen]; exact lim_le hfew (by decide))
  have e5 := threes_ok (sub := sub) (k := k + 2) h4 hs (n := F.length) hfew
  have e4 : evE ⟨run T sub (k + 3), sub⟩ (.lc [1, 2, 3] (.cmp .ne (.call i3 (.cons (.ix (.var 0) (.var 1)) (.cons (.ix (.var 0) (.var 2)) (.cons (.ix (.var 0) (.var 3)) .nil)))) (.cst (.int 0))) (.tup (.cons (.nm 1) (.cons (.nm 2) (.cons (.nm 3) .nil)))) (.of (.call i4 (.cons (.blt .len (.cons (.var 0) .nil)) .nil))) .nil .nil) [some (fD F), none, none, none, none] S
      = .ok (.lst (((thr F.length).map tD).flatMap fun _ => [.bl true])) S := by
    refine ev_lc (fun _ => [.bl true]) ?_ (fun d hd => ?_) ?_
    · simp [evIt, evE, evEs, R.bind, R.of, getV, fD, bltD, lenD, seqOf, view, e5]
    · obtain ⟨t, ht, rfl⟩ := List.mem_map.mp hd
      obtain ⟨q1, q2, q3⟩ := thr_mem ht
      have ga : F[t.1]? = some F[t.1] := List.getElem?_eq_getElem (by omega)
      have gb : F[t.2.1]? = some F[t.2.1] := List.getElem?_eq_getElem (by omega)
      have gc : F[t.2.2]? = some F[t.2.2] := List.getElem?_eq_getElem (by omega)
      have b := bend_ok (sub := sub) (k := k + 2) (r := F[t.2.2]) h3 hs (g.box _ (List.getElem_mem (by omega : t.1 < F.length))) (g.box _ (List.getElem_mem (by omega : t.2.1 < F.length)))
      have nz := g.free _ _ _ _ _ _ ga gb gc q1 q2
      simp [tD, bindT, bindTs, tgsLen, wipeE, evTs, evGs, evE, evEs, R.bind, R.of, getV, ixD, seqOf, view, fD, atI_fD ga, atI_fD gb, atI_fD gc, b, cops, eqD, shd, DEP, eqv, nz]
    · rw [flat_map, List.length_map, List.length_map]
      have : ∀ n : Nat, n ≤ 8 → (thr n).length ≤ 100000 := by
        intro n hn
        rcases n with _ | _ | _ | _ | _ | _ | _ | _ | _ | n <;> first | decide | omega
      exact this _ hfew
  have hall1 : allD S [.lst ((F.map pD).map fun _ => D.bl true)] = some (.bl true) := by
    rw [allD_map (fun _ => true)]
    simp
  have hall2 : allD S [.lst (((thr F.length).map tD).flatMap fun _ => [D.bl true])] = some (.bl true) := by
    rw [flat_map, allD_map (fun _ => true)]
    simp
  have hls := lenset_fD (S := S) g
  refine call_ok hT rfl rfl hs rfl rfl ?_
  unfold c_is_field
  generalize (E.lc [4] (.call i2 (.cons (.var 4) .nil)) (.nm 4) (.of (.var 0)) .nil .nil) = L1 at e2 ⊢
  generalize (E.lc [1, 2, 3] (.cmp .ne (.call i3 (.cons (.ix (.var 0) (.var 1)) (.cons (.ix (.var 0) (.var 2)) (.cons (.ix (.var 0) (.var 3)) .nil)))) (.cst (.int 0))) (.tup (.cons (.nm 1) (.cons (.nm 2) (.cons (.nm 3) .nil)))) (.of (.call i4 (.cons (.blt .len (.cons (.var 0) .nil)) .nil))) .nil .nil) = L2 at e4 ⊢
  generalize ((F.map pD).map fun _ => D.bl true) = l1 at e2 hall1
  generalize (((thr F.length).map tD).flatMap fun _ => [D.bl true]) = l2 at e4 hall2
  have e1' : run T sub (k + 3) i1 [fD F, .int 1, .int 8] S = .ok (.bl true) S := e1
  have hl2 : lenD S [fD F] = some (.int F.length) := by simp [lenD, seqOf, view, fD]
  show evCs _ _ [some (fD F), none, none, none, none] S = _
  simp [evCs, evC, evE, evEs, RS.of, R.bind, R.of, getV, e1', e2, e4, truth, bltD, hall1, hall2, hls, hl2, cops, ltO]
theorem need_field_ok {i i0 i1 i2 i3 i4 j1 j2 k : Nat} (hN : T[i]? = some ⟨1, 1, false, c_need_field i0⟩) (hT : T[i0]? = some ⟨1, 5, false, c_is_field i1 i2 i3 i4⟩) (h1 : T[i1]? = some ⟨3, 3, false, c_are_some⟩) (h2 : T[i2]? = some ⟨1, 2, false, c_is_place i1 j1⟩)
    (h3 : T[i3]? = some ⟨3, 3, false, c_bend⟩) (h4 : T[i4]? = some ⟨1, 4, false, c_threes⟩) (hj1 : T[j1]? = some ⟨3, 3, false, c_is_among j2⟩) (hj2 : T[j2]? = some ⟨1, 1, false, c_is_whole⟩) (hs : OKS S) {F : List (Int × Int)} (g : GF F) : run T sub (k + 5) i [fD F] S = .ok .non S := by
  have e := is_field_ok (sub := sub) (k := k) hT h1 h2 h3 h4 hj1 hj2 hs g
  exact call_non (env := [some (fD F)]) hN rfl rfl hs rfl (by
    show evCs _ _ [some (fD F)] S = _
    simp [c_need_field, evCs, evC, evE, evEs, evIt, evTs, evGs, evPt, bindT, bindTs, RS.of, R.bind, R.of, getV, bops, cops, addD, subD, mulD, modD, fdivD, powD, ltO, leO, gtO, geO, truth, ixD, seqOf, view, bltD, lenD, maxD, intD, isi, L2.atI, L2.ixN, setAll, tgsLen, wipeE, slT, slTs, slG, e])

/-! ### lots -/
structure GL (n : Nat) (L : List Int) : Prop where
  inc : L.Pairwise (· < ·)
  box : ∀ x ∈ L, 0 ≤ x ∧ x < n
theorem GL.nodup {n : Nat} {L : List Int} (g : GL n L) : L.Nodup := g.inc.imp fun h => by omega
theorem inc_le : ∀ (L : List Int) (a b : Int), L.Pairwise (· < ·) → (∀ x ∈ L, a ≤ x ∧ x < b) → (L.length : Int) ≤ max 0 (b - a)
  | [], a, b, _, _ => by simp; omega
  | x :: L, a, b, h, h2 => by
    have h3 := List.pairwise_cons.mp h
    have hx := h2 x List.mem_cons_self
    have ih := inc_le L (x + 1) b h3.2 fun y hy => ⟨by have := h3.1 y hy; omega, (h2 y (List.mem_cons_of_mem _ hy)).2⟩
    rw [List.length_cons]
    push_cast
    omega
theorem GL.len {n : Nat} {L : List Int} (g : GL n L) : L.length ≤ n := by
  have := inc_le L 0 n g.inc g.box
  omega
theorem cut1 (xs : List D) : cut xs (some 1) none = xs.drop 1 := by
  unfold cut HT.sIx
  cases xs with
  | nil => rfl
  | cons x r => simp
theorem zip_inc : ∀ (L : List Int), L.Pairwise (· < ·) → ∀ d ∈ zipD (L.map .int) ((L.map .int).drop 1), ∃ x y : Int, d = .tup [.int x, .int y] ∧ x < y
  | [], _, d, hd => by simp [zipD] at hd
  | [x], _, d, hd => by simp [zipD] at hd
  | x :: y :: L, h, d, hd => by
    have h3 := List.pairwise_cons.mp h
    have hd' : d = .tup [.int x, .int y] ∨ d ∈ zipD ((y :: L).map .int) (((y :: L).map .int).drop 1) := by
      have : zipD ((x :: y :: L).map .int) (((x :: y :: L).map .int).drop 1) = .tup [.int x, .int y] :: zipD ((y :: L).map .int) (((y :: L).map .int).drop 1) := rfl
      rw [this] at hd
      exact List.mem_cons.mp hd
    rcases hd' with rfl | hd'
    · exact ⟨x, y, rfl, h3.1 y List.mem_cons_self⟩
    · exact zip_inc (y :: L) h3.2 d hd'
theorem zip_short : ∀ (xs ys : List D), (zipD xs ys).length ≤ xs.length
  | [], _ => by simp [zipD]
  | _ :: _, [] => by simp [zipD]
  | x :: xs, y :: ys => by have := zip_short xs ys; simp [zipD]; omega
theorem are_numbers_ok {i j1 j2 k : Nat} (hT : T[i]? = some ⟨2, 4, false, c_are_numbers j1⟩) (hj1 : T[j1]? = some ⟨3, 3, false, c_is_among j2⟩) (hj2 : T[j2]? = some ⟨1, 1, false, c_is_whole⟩) (hs : OKS S) {n : Nat} {L : List Int} (g : GL n L) (hn : n ≤ 8) :
    run T sub (k + 3) i [lD L, .int n] S = .ok (.bl true) S := by
  have hl := g.len
  have hlen : (L.map D.int).length = L.length := List.length_map ..
  have e1 : evE ⟨run T sub (k + 2), sub⟩ (.lc [2] (.call j1 (.cons (.var 2) (.cons (.cst (.int 0)) (.cons (.bop .sub (.var 1) (.cst (.int 1))) .nil)))) (.nm 2) (.of (.var 0)) .nil .nil) [some (lD L), some (.int n), none, none] S = .ok (.lst ((L.map D.int).map fun _ => .bl true)) S :=
    ev_map (fun _ => .bl true) rfl (fun d hd => by
      obtain ⟨x, hx, rfl⟩ := List.mem_map.mp hd
      have := is_among_ok (sub := sub) (k := k) hj1 hj2 hs (g.box x hx).1 (hi := (n : Int) - 1) (by have := (g.box x hx).2; omega)
      simp [evE, evEs, R.bind, R.of, getV, bops, subD, this]) (by rw [hlen]; exact lim_le (Nat.le_trans hl hn) (by decide))
  have e2 : evE ⟨run T sub (k + 2), sub⟩ (.lc [2, 3] (.cmp .lt (.var 2) (.var 3)) (.tup (.cons (.nm 2) (.cons (.nm 3) .nil))) (.zip (.var 0) (.sl (.var 0) (.cons (.cst (.int 1)) .nil) .nil)) .nil .nil) [some (lD L), some (.int n), none, none] S
      = .ok (.lst ((zipD (L.map .int) ((L.map .int).drop 1)).flatMap fun _ => [.bl true])) S := by
    refine ev_lc (fun _ => [.bl true]) ?_ (fun d hd => ?_) ?_
    · simp [evIt, evE, evPt, R.bind, R.of, getV, lD, slD, view, cut1]
    · obtain ⟨x, y, rfl, hxy⟩ := zip_inc L g.inc d hd
      simp [bindT, bindTs, tgsLen, wipeE, evTs, evGs, evE, R.bind, R.of, getV, cops, ltO, hxy]
    · rw [flat_map, List.length_map]
      exact lim_le (Nat.le_trans (zip_short _ _) (by rw [hlen]; exact Nat.le_trans hl hn)) (by decide)
  have hall1 : allD S [.lst ((L.map D.int).map fun _ => D.bl true)] = some (.bl true) := by
    rw [allD_map (fun _ => true)]
    simp
  have hall2 : allD S [.lst ((zipD (L.map .int) ((L.map .int).drop 1)).flatMap fun _ => [D.bl true])] = some (.bl true) := by
    rw [flat_map, allD_map (fun _ => true)]
    simp
  refine call_ok hT rfl rfl hs rfl rfl ?_
  unfold c_are_numbers
  generalize (E.lc [2] (.call j1 (.cons (.var 2) (.cons (.cst (.int 0)) (.cons (.bop .sub (.var 1) (.cst (.int 1))) .nil)))) (.nm 2) (.of (.var 0)) .nil .nil) = L1 at e1 ⊢
  generalize (E.lc [2, 3] (.cmp .lt (.var 2) (.var 3)) (.tup (.cons (.nm 2) (.cons (.nm 3) .nil))) (.zip (.var 0) (.sl (.var 0) (.cons (.cst (.int 1)) .nil) .nil)) .nil .nil) = L2 at e2 ⊢
  generalize ((L.map D.int).map fun _ => D.bl true) = l1 at e1 hall1
  generalize ((zipD (L.map .int) ((L.map .int).drop 1)).flatMap fun _ => [D.bl true]) = l2 at e2 hall2
  have hi : isi S sub (lD L) .tup = some true := rfl
  show evCs _ _ [some (lD L), some (.int n), none, none] S = _
  simp [evCs, evC, evE, evEs, RS.of, R.bind, R.of, getV, e1, e2, truth, bltD, hall1, hall2, hi]
end

end Rs
end

section
set_option Elab.async false
set_option linter.all false
set_option maxRecDepth 100000
set_option maxHeartbeats 4000000
set_option autoImplicit false
/-! RsBase2: lots, sides, texts of data. Own work; printed by mk2.sh. -/
namespace Rs
open PySem
section
variable {T : List Fn} {sub : Str → Str → Option Bool} {S : Store}
/-- the places of the fields module -/
structure Fld (T : List Fn) where
  (whole among some_ nums place bend threes field needF : Nat)
  w : T[whole]? = some ⟨1, 1, false, c_is_whole⟩
  a : T[among]? = some ⟨3, 3, false, c_is_among whole⟩
  s : T[some_]? = some ⟨3, 3, false, c_are_some⟩
  p : T[place]? = some ⟨1, 2, false, c_is_place some_ among⟩
  b : T[bend]? = some ⟨3, 3, false, c_bend⟩
  t : T[threes]? = some ⟨1, 4, false, c_threes⟩
  f : T[field]? = some ⟨1, 5, false, c_is_field some_ place bend threes⟩
theorem Fld.field_ok (x : Fld T) {k : Nat} (hs : OKS S) {F : List (Int × Int)} (g : GF F) : run T sub (k + 4) x.field [fD F] S = .ok (.bl true) S := is_field_ok x.f x.s x.p x.b x.t x.a x.w hs g
theorem lenD_fD (F : List (Int × Int)) : lenD S [fD F] = some (.int F.length) := by simp [lenD, seqOf, view, fD]
theorem is_lot_ok (x : Fld T) {i i0 i1 k : Nat} (hI : T[i]? = some ⟨2, 2, false, c_is_lot i0 i1⟩) (hN : T[i0]? = some ⟨1, 1, false, c_need_field x.field⟩) (h1 : T[i1]? = some ⟨2, 4, false, c_are_numbers x.among⟩) (hs : OKS S) {F : List (Int × Int)} (g : GF F) {L : List Int} (gl : GL F.length L) :
    run T sub (k + 6) i [fD F, lD L] S = .ok (.bl true) S := by
  have e1 := need_field_ok (sub := sub) (k := k) hN x.f x.s x.p x.b x.t x.a x.w hs g
  have e2 := are_numbers_ok (sub := sub) (k := k + 2) h1 x.a x.w hs gl g.few
  have hl := lenD_fD (S := S) F
  refine call_ok hI rfl rfl hs rfl rfl ?_
  show evCs _ _ [some (fD F), some (lD L)] S = _
  simp [c_is_lot, evCs, evC, evE, evEs, RS.of, R.bind, R.of, getV, bltD, e1, e2, hl]
theorem need_lot_ok (x : Fld T) {i0 i1 i2 i3 k : Nat} (hL : T[i3]? = some ⟨2, 2, false, c_need_lot i2⟩) (hI : T[i2]? = some ⟨2, 2, false, c_is_lot i0 i1⟩) (hN : T[i0]? = some ⟨1, 1, false, c_need_field x.field⟩) (h1 : T[i1]? = some ⟨2, 4, false, c_are_numbers x.among⟩) (hs : OKS S)
    {F : List (Int × Int)} (g : GF F) {L : List Int} (gl : GL F.length L) : run T sub (k + 7) i3 [fD F, lD L] S = .ok .non S := by
  have e := is_lot_ok (sub := sub) (k := k) x hI hN h1 hs g gl
  refine call_non (env := [some (fD F), some (lD L)]) hL rfl rfl hs rfl ?_
  show evCs _ _ [some (fD F), some (lD L)] S = _
  simp [c_need_lot, evCs, evC, evE, evEs, evIt, evTs, evGs, evPt, bindT, bindTs, RS.of, R.bind, R.of, getV, bops, cops, addD, subD, mulD, modD, fdivD, powD, ltO, leO, gtO, geO, truth, ixD, seqOf, view, bltD, lenD, maxD, intD, isi, L2.atI, L2.ixN, setAll, tgsLen, wipeE, slT, slTs, slG, e]
theorem shd_ints : ∀ (L : List Int) (m : Nat), (L.map D.int).all (shd (m + 1)) = true
  | [], _ => rfl
  | x :: L, m => by rw [List.map_cons, List.all_cons, shd_ints L m]; rfl
theorem anyEq_int (x : Int) : ∀ L : List Int, anyEq (.int x) (L.map .int) = decide (x ∈ L)
  | [] => by simp [anyEq]
  | y :: L => by
    have ih := anyEq_int x L
    unfold anyEq at ih ⊢
    rw [List.map_cons, List.any_cons, ih]
    unfold eqv
    by_cases h : y = x
    · simp [h]
    · have h' : ¬ x = y := fun z => h z.symm
      by_cases h2 : x ∈ L <;> simp [h, h', h2]
theorem inD_lot (x : Int) (L : List Int) : inD S (.int x) (lD L) = some (decide (x ∈ L)) := by
  show (if (shd DEP (.int x) && (L.map D.int).all (shd DEP)) = true then some (anyEq (.int x) (L.map .int)) else none) = _
  rw [show (L.map D.int).all (shd DEP) = true from shd_ints L 59, anyEq_int]
  rfl
theorem need_stake_ok {i j k : Nat} (hN : T[i]? = some ⟨2, 2, false, c_need_stake j⟩) (hW : T[j]? = some ⟨1, 1, false, c_is_whole⟩) (hs : OKS S) {L : List Int} {x : Int} (hx : x ∈ L) : run T sub (k + 2) i [lD L, .int x] S = .ok .non S := by
  have e := is_whole_ok (sub := sub) (k := k) hW hs x
  have hi := inD_lot (S := S) x L
  rw [decide_eq_true hx] at hi
  refine call_non (env := [some (lD L), some (.int x)]) hN rfl rfl hs rfl ?_
  show evCs _ _ [some (lD L), some (.int x)] S = _
  simp [c_need_stake, evCs, evC, evE, evEs, RS.of, R.bind, R.of, getV, truth, cops, e, hi]
theorem filter_ints (p : Int → Bool) (q : D → Bool) (h : ∀ x, q (.int x) = p x) : ∀ L : List Int, ((L.map D.int).filter q).map id = (L.filter p).map .int
  | [] => rfl
  | x :: L => by
    have ih := filter_ints p q h L
    rw [List.map_cons, List.filter_cons, List.filter_cons, h x]
    by_cases hp : p x = true
    · rw [if_pos hp, if_pos hp, List.map_cons, List.map_cons, ih]; rfl
    · rw [if_neg hp, if_neg hp, ih]
def isNot (x : Int) : D → Bool
  | .int y => decide (y ≠ x)
  | _ => false
theorem less_ok {i k : Nat} (hT : T[i]? = some ⟨2, 3, false, c_less⟩) (hs : OKS S) {L : List Int} (hl : L.length ≤ 100) (x : Int) : run T sub (k + 1) i [lD L, .int x] S = .ok (lD (L.filter fun y => decide (y ≠ x))) S := by
  have e : evE ⟨run T sub k, sub⟩ (.lc [2] (.var 2) (.nm 2) (.of (.var 0)) (.cons (.cmp .ne (.var 2) (.var 1)) .nil) .nil) [some (lD L), some (.int x), none] S = .ok (.lst (((L.map D.int).filter (isNot x)).map id)) S :=
    ev_filter (isNot x) id rfl (fun d hd => by
      obtain ⟨y, hy, rfl⟩ := List.mem_map.mp hd
      refine ⟨.bl (decide (y ≠ x)), ?_, rfl⟩
      simp [evE, R.bind, R.of, getV, cops, eqD, view, shd, DEP, eqv]
      by_cases h : y = x <;> simp [h]) (fun d hd _ => by simp [evE, R.of, getV]) (by rw [List.length_map]; exact lim_le hl (by decide))
  rw [filter_ints (fun y => decide (y ≠ x)) (isNot x) fun y => rfl] at e
  refine call_ok hT rfl rfl hs rfl (cln_lD _ _) ?_
  unfold c_less
  generalize (E.lc [2] (.var 2) (.nm 2) (.of (.var 0)) (.cons (.cmp .ne (.var 2) (.var 1)) .nil) .nil) = L1 at e ⊢
  show evCs _ _ [some (lD L), some (.int x), none] S = .ok (.rt (.tup ((L.filter fun y => decide (y ≠ x)).map .int))) S
  simp only [evCs, evC, evE, evEs, RS.of, R.bind, R.of, bltD, tupleD, view, e]
def sgn (z : Int) : Int := (if z > 0 then 1 else 0) - (if z < 0 then 1 else 0)
theorem side_ok (x : Fld T) {i k : Nat} (hT : T[i]? = some ⟨4, 5, false, c_side x.bend⟩) (hs : OKS S) {F : List (Int × Int)} (g : GF F) {a b c : Nat} {p q r : Int × Int} (ha : F[a]? = some p) (hb : F[b]? = some q) (hc : F[c]? = some r) :
    run T sub (k + 2) i [fD F, .int a, .int b, .int c] S = .ok (.int (sgn (bendI p q r))) S := by
  have e := bend_ok (sub := sub) (k := k) (r := r) x.b hs (g.box p (List.mem_of_getElem? ha)) (g.box q (List.mem_of_getElem? hb))
  refine call_ok hT rfl rfl hs rfl rfl ?_
  show evCs _ _ [some (fD F), some (.int a), some (.int b), some (.int c), none] S = _
  simp [c_side, evCs, evC, evE, evEs, bindT, RS.of, R.bind, R.of, getV, ixD, seqOf, view, fD, atI_fD ha, atI_fD hb, atI_fD hc, e, cops, gtO, ltO, bltD, intD, bops, subD, sgn]
end
end Rs
end

section
set_option Elab.async false
set_option linter.all false
set_option maxRecDepth 100000
set_option maxHeartbeats 4000000
set_option autoImplicit false
/-! RsBase3: drawn fields and lots. Own work; printed by mk2.sh. -/
namespace Rs
open PySem
section
variable {T : List Fn} {sub : Str → Str → Option Bool} {S : Store}
theorem shd_pairs : ∀ (F : List (Int × Int)) (m : Nat), (F.map pD).all (shd (m + 2)) = true
  | [], _ => rfl
  | x :: F, m => by rw [List.map_cons, List.all_cons, shd_pairs F m]; rfl
theorem eqv_pD (p q : Int × Int) : eqv (pD p) (pD q) = decide (p = q) := by
  have h : eqv (pD p) (pD q) = (p.1 == q.1 && (p.2 == q.2 && true)) := by simp [pD, eqv, eqvs]
  rw [h, Bool.and_true]
  by_cases h1 : p = q
  · subst h1; simp
  · rw [decide_eq_false h1]
    by_cases h2 : p.1 = q.1
    · have : ¬ p.2 = q.2 := fun z => h1 (Prod.ext h2 z)
      simp [this]
    · simp [h2]
theorem anyEq_pair (p : Int × Int) : ∀ F : List (Int × Int), anyEq (pD p) (F.map pD) = decide (p ∈ F)
  | [] => by simp [anyEq]
  | q :: F => by
    have ih := anyEq_pair p F
    unfold anyEq at ih ⊢
    rw [List.map_cons, List.any_cons, ih, eqv_pD]
    by_cases h : q = p
    · simp [h]
    · have h' : ¬ p = q := fun z => h z.symm
      by_cases h2 : p ∈ F <;> simp [h, h', h2]
theorem inD_field (p : Int × Int) (F : List (Int × Int)) : inD S (pD p) (fD F) = some (decide (p ∈ F)) := by
  show (if (shd DEP (pD p) && (F.map pD).all (shd DEP)) = true then some (anyEq (pD p) (F.map pD)) else none) = _
  rw [show (F.map pD).all (shd DEP) = true from shd_pairs F 58, anyEq_pair]
  rfl
theorem cutN (xs : List D) (k : Nat) : cut xs (some (k : Int)) none = xs.drop k := by
  unfold cut
  rw [HT.sIx_nat, HT.sIx_none]
  by_cases h : k ≤ xs.length
  · rw [Nat.min_eq_left h, List.take_of_length_le (by rw [List.length_drop]; exact Nat.le_refl _)]
  · rw [Nat.min_eq_right (by omega), List.drop_length, List.drop_eq_nil_of_le (by omega)]
    simp
/-- in one row with q and p -/
def inRow (q p : Int × Int) : D → Bool
  | .tup [.int a, .int b] => decide (bendI q (a, b) p = 0)
  | _ => false
theorem shd_ones {α : Type} (l : List α) (m : Nat) : (l.map fun _ => D.int 1).all (shd (m + 1)) = true := by
  rw [List.all_map]
  simp [shd]
def freeBody (i : Nat) : Cs := .cons (.ite (.cmp .ne (.lc [4] (.cst (.int 1)) (.nm 4) (.of (.sl (.var 0) (.cons (.bop .add (.var 2) (.cst (.int 1))) .nil) .nil)) (.cons (.cmp .eq (.call i (.cons (.var 3) (.cons (.var 4) (.cons (.var 1) .nil)))) (.cst (.int 0))) .nil) .nil) (.lst .nil)) (.cons (.ret (.cst (.bl false))) .nil) .nil) .nil
theorem free_turn {i k : Nat} (hB : T[i]? = some ⟨3, 4, false, c__law_bend⟩) (hs : OKS S) {F : List (Int × Int)} (hF : F.length ≤ 8) (hbox : ∀ q ∈ F, inBox q) {p q : Int × Int} (hq : inBox q) (n : Nat) (a4 : Option D) :
    evCs ⟨run T sub (k + 1), sub⟩ (freeBody i) [some (fD F), some (pD p), some (.int n), some (pD q), a4] S = if ((F.map pD).drop (n + 1)).any (inRow q p) = true then .ok (.rt (.bl false)) S else .ok (.nx [some (fD F), some (pD p), some (.int n), some (pD q), a4]) S := by
  have e : evE ⟨run T sub (k + 1), sub⟩ (.lc [4] (.cst (.int 1)) (.nm 4) (.of (.sl (.var 0) (.cons (.bop .add (.var 2) (.cst (.int 1))) .nil) .nil)) (.cons (.cmp .eq (.call i (.cons (.var 3) (.cons (.var 4) (.cons (.var 1) .nil)))) (.cst (.int 0))) .nil) .nil) [some (fD F), some (pD p), some (.int n), some (pD q), a4] S
      = .ok (.lst ((((F.map pD).drop (n + 1)).filter (inRow q p)).map fun _ => .int 1)) S := by
    refine ev_filter (inRow q p) (fun _ => .int 1) ?_ (fun d hd => ?_) (fun d hd _ => by simp [evE]) ?_
    · have hc := cutN (F.map pD) (n + 1)
      push_cast at hc
      simp [evIt, evE, evPt, R.bind, R.of, getV, bops, addD, slD, view, fD, hc]
    · obtain ⟨r, hr, rfl⟩ := List.mem_map.mp (List.mem_of_mem_drop hd)
      have b := lbend_ok (sub := sub) (k := k) (r := p) hB hs hq (hbox r hr)
      refine ⟨.bl (decide (bendI q r p = 0)), ?_, rfl⟩
      simp [evE, evEs, R.bind, R.of, getV, b, cops, eqD, view, shd, DEP, eqv]
      by_cases h : bendI q r p = 0 <;> simp [h]
    · exact lim_le (Nat.le_trans (by rw [List.length_drop, List.length_map]; omega) hF) (by decide)
  unfold freeBody
  generalize (E.lc [4] (.cst (.int 1)) (.nm 4) (.of (.sl (.var 0) (.cons (.bop .add (.var 2) (.cst (.int 1))) .nil) .nil)) (.cons (.cmp .eq (.call i (.cons (.var 3) (.cons (.var 4) (.cons (.var 1) .nil)))) (.cst (.int 0))) .nil) .nil) = L1 at e ⊢
  have hne : cops S .ne (.lst ((((F.map pD).drop (n + 1)).filter (inRow q p)).map fun _ => .int 1)) (.lst []) = some (((F.map pD).drop (n + 1)).any (inRow q p)) := by
    show (match shd DEP (.lst ((((F.map pD).drop (n + 1)).filter (inRow q p)).map fun _ => .int 1)) && shd DEP (.lst []) with
      | true => some (eqv (.lst ((((F.map pD).drop (n + 1)).filter (inRow q p)).map fun _ => .int 1)) (.lst []))
      | false => none).map (!·) = _
    rw [show shd DEP (.lst ((((F.map pD).drop (n + 1)).filter (inRow q p)).map fun _ => .int 1)) = true from shd_ones _ 58]
    show some (!eqv (.lst ((((F.map pD).drop (n + 1)).filter (inRow q p)).map fun _ => .int 1)) (.lst [])) = _
    congr 1
    cases h : ((F.map pD).drop (n + 1)).filter (inRow q p) with
    | nil =>
      have : ((F.map pD).drop (n + 1)).any (inRow q p) = false := by
        rw [List.any_eq_false]
        intro x hx
        have := List.filter_eq_nil_iff.mp h x hx
        exact this
      rw [this]
      rfl
    | cons x l =>
      have hx : x ∈ ((F.map pD).drop (n + 1)).filter (inRow q p) := by rw [h]; exact List.mem_cons_self
      have : ((F.map pD).drop (n + 1)).any (inRow q p) = true := List.any_eq_true.mpr ⟨x, (List.mem_filter.mp hx).1, (List.mem_filter.mp hx).2⟩
      rw [this]
      rfl
  generalize ((((F.map pD).drop (n + 1)).filter (inRow q p)).map fun _ => D.int 1) = l1 at e hne
  cases hb : ((F.map pD).drop (n + 1)).any (inRow q p) with
  | true =>
    rw [hb] at hne
    simp [evCs, evC, evE, evEs, RS.of, R.bind, R.of, e, hne, truth, LIM]
  | false =>
    rw [hb] at hne
    simp [evCs, evC, evE, evEs, RS.of, R.bind, R.of, e, hne, truth, LIM]
theorem free_loop {i k : Nat} (hB : T[i]? = some ⟨3, 4, false, c__law_bend⟩) (hs : OKS S) {F : List (Int × Int)} (hF : F.length ≤ 8) (hbox : ∀ q ∈ F, inBox q) {p : Int × Int} : ∀ (G : List (Int × Int)) (n : Nat) (a2 a3 a4 : Option D), F.drop n = G →
    ∃ r, forL ⟨run T sub (k + 1), sub⟩ (.tup (.cons (.nm 2) (.cons (.nm 3) .nil))) (fun e S => evCs ⟨run T sub (k + 1), sub⟩ (freeBody i) e S) (enuD n (G.map pD)) [some (fD F), some (pD p), a2, a3, a4] S = .ok r S ∧
      (r = .rt (.bl false) ∨ ((∃ b2 b3 b4, r = .nx [some (fD F), some (pD p), b2, b3, b4]) ∧ ∀ (a b : Nat) (q s : Int × Int), n ≤ a → a < b → F[a]? = some q → F[b]? = some s → bendI q s p ≠ 0))
  | [], n, a2, a3, a4, h => by
    refine ⟨_, rfl, .inr ⟨⟨a2, a3, a4, rfl⟩, fun a b q s h1 h2 h3 h4 => ?_⟩⟩
    have := List.drop_eq_nil_iff.mp h
    have := (List.getElem?_eq_some_iff.mp h3).1
    omega
  | q :: G, n, a2, a3, a4, h => by
    have hq : F[n]? = some q := by
      have := congrArg (fun l => l[0]?) h
      simpa using this
    have hG : F.drop (n + 1) = G := by
      have := congrArg (fun l => l.drop 1) h
      simpa using this
    have t := free_turn (sub := sub) (k := k) hB hs hF hbox (p := p) (hbox q (List.mem_of_getElem? hq)) n a4
    have hbind : bindT ⟨run T sub (k + 1), sub⟩ (.tup (.cons (.nm 2) (.cons (.nm 3) .nil))) (.tup [.int n, pD q]) [some (fD F), some (pD p), a2, a3, a4] S = .ok [some (fD F), some (pD p), some (.int n), some (pD q), a4] S := by simp [bindT, bindTs, tgsLen]
    rw [List.map_cons]
    unfold enuD forL
    rw [hbind]
    simp only [t]
    cases hb : ((F.map pD).drop (n + 1)).any (inRow q p) with
    | true =>
      refine ⟨.rt (.bl false), ?_, .inl rfl⟩
      rw [if_pos rfl]
    | false =>
      rw [if_neg Bool.false_ne_true]
      obtain ⟨r, h1, h2⟩ := free_loop hB hs hF hbox (p := p) G (n + 1) (some (.int n)) (some (pD q)) a4 hG
      refine ⟨r, h1, ?_⟩
      rcases h2 with h2 | ⟨h2, h3⟩
      · exact .inl h2
      · refine .inr ⟨h2, fun a b q' s g1 g2 g3 g4 => ?_⟩
        by_cases ha : a = n
        · subst ha
          rw [hq] at g3
          cases g3
          intro hz
          rw [List.any_eq_false] at hb
          refine hb (pD s) ?_ (by unfold inRow pD; exact decide_eq_true hz)
          rw [← List.map_drop]
          refine List.mem_map_of_mem ?_
          refine List.mem_of_getElem? (i := b - (a + 1)) ?_
          rw [List.getElem?_drop]
          rw [show a + 1 + (b - (a + 1)) = b by omega]
          exact g4
        · exact h3 a b q' s (by omega) g2 g3 g4
theorem is_free_ok {i j k : Nat} (hT : T[i]? = some ⟨2, 5, false, c__law_is_free j⟩) (hB : T[j]? = some ⟨3, 4, false, c__law_bend⟩) (hs : OKS S) {F : List (Int × Int)} (hF : F.length ≤ 8) (hbox : ∀ q ∈ F, inBox q) (p : Int × Int) :
    ∃ b, run T sub (k + 2) i [fD F, pD p] S = .ok (.bl b) S ∧ (b = true → p ∉ F ∧ ∀ (a b : Nat) (q s : Int × Int), a < b → F[a]? = some q → F[b]? = some s → bendI q s p ≠ 0) ∧ (F = [] → b = true) := by
  have hin := inD_field (S := S) p F
  by_cases hp : p ∈ F
  · rw [decide_eq_true hp] at hin
    refine ⟨false, call_ok hT rfl rfl hs rfl rfl ?_, (fun z => nomatch z), fun z => by rw [z] at hp; simp at hp⟩
    show evCs _ _ [some (fD F), some (pD p), none, none, none] S = _
    simp [c__law_is_free, evCs, evC, evE, RS.of, R.bind, R.of, getV, cops, hin, truth]
  · rw [decide_eq_false hp] at hin
    obtain ⟨r, h1, h2⟩ := free_loop (sub := sub) (k := k) hB hs hF hbox (p := p) F 0 none none none (by simp)
    have h1 : forL ⟨run T sub (k + 1), sub⟩ (.tup (.cons (.nm 2) (.cons (.nm 3) .nil))) (fun e S => evCs ⟨run T sub (k + 1), sub⟩ (freeBody j) e S) (enuD 0 (F.map pD)) [some (fD F), some (pD p), none, none, none] S = .ok r S := h1
    have ev : evCs ⟨run T sub (k + 1), sub⟩ (c__law_is_free j) [some (fD F), some (pD p), none, none, none] S = match (RS.ok r S) with
        | .ok (.nx e) S1 => .ok (.rt (.bl true)) S1
        | r => r := by
      have hc : c__law_is_free j = (.cons (.ite (.cmp .isin (.var 1) (.var 0)) (.cons (.ret (.cst (.bl false))) .nil) .nil) (.cons (.fr (.tup (.cons (.nm 2) (.cons (.nm 3) .nil))) (.enu (.var 0)) (freeBody j)) (.cons (.ret (.cst (.bl true))) .nil))) := rfl
      rw [hc]
      generalize freeBody j = FB at h1 ⊢
      have hi : evIt ⟨run T sub (k + 1), sub⟩ (.enu (.var 0)) [some (fD F), some (pD p), none, none, none] S = .ok (enuD 0 (F.map pD)) S := rfl
      simp only [evCs, evC, evE, RS.of, R.bind, R.of, getV, cops, hin, truth, List.getElem?_cons_zero, List.getElem?_cons_succ, Option.map_some, hi]
      first
        | (rw [h1]; done)
        | (rw [h1]; cases r <;> rfl)
    rcases h2 with rfl | ⟨⟨b2, b3, b4, rfl⟩, h3⟩
    · refine ⟨false, call_ok hT rfl rfl hs rfl rfl ev, (fun z => nomatch z), fun z => ?_⟩
      subst z
      simp [enuD, forL] at h1
    · exact ⟨true, call_ok hT rfl rfl hs rfl rfl ev, fun _ => ⟨hp, fun a b q s g1 g2 g3 => h3 a b q s (Nat.zero_le _) g1 g2 g3⟩, fun _ => rfl⟩
end
end Rs
end

section
set_option Elab.async false
set_option linter.all false
set_option maxRecDepth 100000
set_option maxHeartbeats 4000000
set_option autoImplicit false
/-! RsBase4: the drawn field. Own work; printed by mk2.sh. -/
namespace Rs
open PySem
section
variable {T : List Fn} {sub : Str → Str → Option Bool}
theorem draw_ok2 {k i p : Nat} {S : Store} {m : Int} (hT : T[i]? = some ⟨2, 4, false, c__law_draw⟩) (hS : Pn S p) (h0 : 0 < m) (h1 : m < 1073741824) :
    ∃ (v : Int) (S' : Store), run T sub (k + 1) i [.ref p, .int m] S = .ok (.int v) S' ∧ 0 ≤ v ∧ v < m ∧ Pn S' p ∧ S'.length = S.length := draw_ok hT hS h0 h1
/-- a field in the making -/
structure PF (m : Int) (F : List (Int × Int)) : Prop where
  few : (F.length : Int) ≤ m
  box : ∀ p ∈ F, inBox p
  nd : F.Nodup
  free : ∀ (a b c : Nat) (p q r : Int × Int), F[a]? = some p → F[b]? = some q → F[c]? = some r → a < b → b < c → bendI p q r ≠ 0
theorem PF.nil {m : Int} (h : 0 ≤ m) : PF m [] := ⟨by simpa using h, fun p h => by simp at h, List.nodup_nil, fun a b c p q r h => by simp at h⟩
theorem PF.more {m : Int} {F : List (Int × Int)} (f : PF m F) {p : Int × Int} (hl : (F.length : Int) < m) (hb : inBox p) (hn : p ∉ F) (hf : ∀ (a b : Nat) (q s : Int × Int), a < b → F[a]? = some q → F[b]? = some s → bendI q s p ≠ 0) : PF m (F ++ [p]) := by
  refine ⟨by rw [List.length_append]; simp; omega, fun q hq => ?_, ?_, fun a b c q s r h1 h2 h3 h4 h5 => ?_⟩
  · rcases List.mem_append.mp hq with hq | hq
    · exact f.box q hq
    · rw [List.mem_singleton.mp hq]; exact hb
  · rw [List.nodup_append]
    refine ⟨f.nd, by simp, fun a ha b hb' => ?_⟩
    rw [List.mem_singleton.mp hb']
    exact fun z => hn (by rw [← z]; exact ha)
  · have hc : c < (F ++ [p]).length := (List.getElem?_eq_some_iff.mp h3).1
    rw [List.length_append] at hc
    simp at hc
    rw [List.getElem?_append_left (by omega)] at h1 h2
    by_cases hcl : c < F.length
    · rw [List.getElem?_append_left hcl] at h3
      exact f.free a b c q s r h1 h2 h3 h4 h5
    · have : c = F.length := by omega
      subst this
      rw [List.getElem?_append_right (Nat.le_refl _)] at h3
      simp at h3
      subst h3
      exact hf a b q s h4 h1 h2
def fieldBody (d i : Nat) : Cs := (.cons (.asg (.nm 6) (.tup (.cons (.call d (.cons (.var 0) (.cons (.bop .add (.var 3) (.cst (.int 1))) .nil))) (.cons (.call d (.cons (.var 0) (.cons (.bop .add (.var 3) (.cst (.int 1))) .nil))) .nil)))) (.cons (.ite (.cmp .eq (.call d (.cons (.var 0) (.cons (.cst (.int 5)) .nil))) (.cst (.int 0))) (.cons (.asg (.nm 6) (.tup (.cons (.ix (.var 6) (.cst (.int 0))) (.cons (.ix (.lst (.cons (.cst (.int 0)) (.cons (.var 3) .nil))) (.call d (.cons (.var 0) (.cons (.cst (.int 2)) .nil)))) .nil)))) .nil) .nil) (.cons (.ite (.and (.cmp .lt (.blt .len (.cons (.var 5) .nil)) (.var 4)) (.call i (.cons (.var 5) (.cons (.var 6) .nil)))) (.cons (.asg (.nm 5) (.bop .add (.var 5) (.tup (.cons (.var 6) .nil)))) .nil) .nil) .nil)))
def lastIf (i : Nat) : Cs := (.cons (.ite (.and (.cmp .lt (.blt .len (.cons (.var 5) .nil)) (.var 4)) (.call i (.cons (.var 5) (.cons (.var 6) .nil)))) (.cons (.asg (.nm 5) (.bop .add (.var 5) (.tup (.cons (.var 6) .nil)))) .nil) .nil) .nil)
theorem last_if {i j k p : Nat} {S : Store} {most wide many : Int} {F : List (Int × Int)} {q : Int × Int} {a2 : Option D} (hI : T[i]? = some ⟨2, 5, false, c__law_is_free j⟩) (hB : T[j]? = some ⟨3, 4, false, c__law_bend⟩) (hs : OKS S) (hm : many ≤ 8) (f : PF many F) (hq : inBox q) :
    ∃ F', evCs ⟨run T sub (k + 2), sub⟩ (lastIf i) [some (.ref p), some (.int most), a2, some (.int wide), some (.int many), some (fD F), some (pD q)] S
      = .ok (.nx [some (.ref p), some (.int most), a2, some (.int wide), some (.int many), some (fD F'), some (pD q)]) S ∧ PF many F' ∧ F.length ≤ F'.length ∧ (0 < many → F' ≠ []) := by
  have hl := lenD_fD (S := S) F
  have hfew : F.length ≤ 8 := by have := f.few; omega
  by_cases hlt : (F.length : Int) < many
  · obtain ⟨b, e, h1, h2⟩ := is_free_ok (sub := sub) (k := k) hI hB hs hfew f.box q
    cases b with
    | true =>
      obtain ⟨h3, h4⟩ := h1 rfl
      refine ⟨F ++ [q], ?_, f.more hlt hq h3 h4, by simp, fun _ => by simp⟩
      have hcat : addD S (fD F) (.tup [pD q]) = some (fD (F ++ [q])) := by
        show (if (F.map pD).length + 1 ≤ LIM then some (D.tup (F.map pD ++ [pD q])) else none) = _
        rw [if_pos (by rw [List.length_map]; exact lim_le (m := 9) (by omega) (by decide))]
        unfold fD
        rw [List.map_append]
        rfl
      simp [lastIf, evCs, evC, evE, evEs, bindT, RS.of, R.bind, R.of, getV, bltD, hl, cops, ltO, hlt, truth, e, bops, hcat, LIM]
    | false =>
      refine ⟨F, ?_, f, Nat.le_refl _, fun _ z => ?_⟩
      · simp [lastIf, evCs, evC, evE, evEs, bindT, RS.of, R.bind, R.of, getV, bltD, hl, cops, ltO, hlt, truth, e]
      · exact absurd (h2 z) Bool.false_ne_true
  · refine ⟨F, ?_, f, Nat.le_refl _, fun h z => ?_⟩
    · simp [lastIf, evCs, evC, evE, evEs, bindT, RS.of, R.bind, R.of, getV, bltD, hl, cops, ltO, hlt, truth]
    · subst z
      simp at hlt
      omega
theorem field_turn {d i j k p : Nat} {S : Store} {most wide many : Int} {F : List (Int × Int)} {a2 a6 : Option D} (hD : T[d]? = some ⟨2, 4, false, c__law_draw⟩) (hI : T[i]? = some ⟨2, 5, false, c__law_is_free j⟩) (hB : T[j]? = some ⟨3, 4, false, c__law_bend⟩) (hS : Pn S p)
    (hw : 0 ≤ wide ∧ wide ≤ 40) (hm : many ≤ 8) (f : PF many F) : ∃ (F' : List (Int × Int)) (S' : Store) (b6 : Option D), evCs ⟨run T sub (k + 2), sub⟩ (fieldBody d i) [some (.ref p), some (.int most), a2, some (.int wide), some (.int many), some (fD F), a6] S
      = .ok (.nx [some (.ref p), some (.int most), a2, some (.int wide), some (.int many), some (fD F'), b6]) S' ∧ PF many F' ∧ F.length ≤ F'.length ∧ (0 < many → F' ≠ []) ∧ Pn S' p ∧ S'.length = S.length := by
  obtain ⟨x, S1, e1, x0, x1, P1, l1⟩ := draw_ok2 (sub := sub) (k := k + 1) hD hS (m := wide + 1) (by omega) (by omega)
  obtain ⟨y, S2, e2, y0, y1, P2, l2⟩ := draw_ok2 (sub := sub) (k := k + 1) hD P1 (m := wide + 1) (by omega) (by omega)
  obtain ⟨z, S3, e3, z0, z1, P3, l3⟩ := draw_ok2 (sub := sub) (k := k + 1) hD P2 (m := 5) (by decide) (by decide)
  have split : fieldBody d i = .cons (.asg (.nm 6) (.tup (.cons (.call d (.cons (.var 0) (.cons (.bop .add (.var 3) (.cst (.int 1))) .nil))) (.cons (.call d (.cons (.var 0) (.cons (.bop .add (.var 3) (.cst (.int 1))) .nil))) .nil)))) (.cons (.ite (.cmp .eq (.call d (.cons (.var 0) (.cons (.cst (.int 5)) .nil))) (.cst (.int 0))) (.cons (.asg (.nm 6) (.tup (.cons (.ix (.var 6) (.cst (.int 0))) (.cons (.ix (.lst (.cons (.cst (.int 0)) (.cons (.var 3) .nil))) (.call d (.cons (.var 0) (.cons (.cst (.int 2)) .nil)))) .nil)))) .nil) .nil) (lastIf i)) := rfl
  rw [split]
  by_cases hz : z = 0
  · subst hz
    obtain ⟨t, S4, e4, t0, t1, P4, l4⟩ := draw_ok2 (sub := sub) (k := k + 1) hD P3 (m := 2) (by decide) (by decide)
    obtain ⟨u, hu, u0, u1⟩ : ∃ u : Int, L2.atI [D.int 0, D.int wide] t = some (.int u) ∧ 0 ≤ u ∧ u ≤ 40 := by
      have : t = 0 ∨ t = 1 := by omega
      rcases this with rfl | rfl
      · exact ⟨0, rfl, by decide, by decide⟩
      · exact ⟨wide, rfl, hw.1, hw.2⟩
    obtain ⟨F', e5, f', g1, g2⟩ := last_if (sub := sub) (k := k) (p := p) (most := most) (wide := wide) (a2 := a2) hI hB P4.ok hm f (q := (x, u)) ⟨⟨x0, by omega⟩, u0, u1⟩
    refine ⟨F', S4, some (pD (x, u)), ?_, f', g1, g2, P4, by omega⟩
    generalize lastIf i = LI at e5 ⊢
    have hx : L2.atI [D.int x, D.int y] 0 = some (.int x) := rfl
    simp [evCs, evC, evE, evEs, bindT, RS.of, R.bind, R.of, getV, bops, addD, e1, e2, e3, e4, cops, eqD, view, shd, DEP, eqv, truth, ixD, seqOf, LIM, hu, hx]
    exact e5
  · obtain ⟨F', e5, f', g1, g2⟩ := last_if (sub := sub) (k := k) (p := p) (most := most) (wide := wide) (a2 := a2) hI hB P3.ok hm f (q := (x, y)) ⟨⟨x0, by omega⟩, y0, by omega⟩
    refine ⟨F', S3, some (pD (x, y)), ?_, f', g1, g2, P3, by omega⟩
    generalize lastIf i = LI at e5 ⊢
    have hz' : (z == 0) = false := by simpa using hz
    simp [evCs, evC, evE, evEs, bindT, RS.of, R.bind, R.of, getV, bops, addD, e1, e2, e3, cops, eqD, view, shd, DEP, eqv, truth, LIM, hz']
    exact e5
theorem field_loop {d i j k p : Nat} {most wide many : Int} (hD : T[d]? = some ⟨2, 4, false, c__law_draw⟩) (hI : T[i]? = some ⟨2, 5, false, c__law_is_free j⟩) (hB : T[j]? = some ⟨3, 4, false, c__law_bend⟩) (hw : 0 ≤ wide ∧ wide ≤ 40) (hm : many ≤ 8) :
    ∀ (items : List D) (F : List (Int × Int)) (S : Store) (a2 a6 : Option D), Pn S p → PF many F → ∃ (F' : List (Int × Int)) (S' : Store) (b2 b6 : Option D), forL ⟨run T sub (k + 2), sub⟩ (.nm 2) (fun e S => evCs ⟨run T sub (k + 2), sub⟩ (fieldBody d i) e S) items [some (.ref p), some (.int most), a2, some (.int wide), some (.int many), some (fD F), a6] S
      = .ok (.nx [some (.ref p), some (.int most), b2, some (.int wide), some (.int many), some (fD F'), b6]) S' ∧ PF many F' ∧ F.length ≤ F'.length ∧ (0 < many → items ≠ [] → F' ≠ []) ∧ Pn S' p ∧ S'.length = S.length
  | [], F, S, a2, a6, hS, f => ⟨F, S, a2, a6, rfl, f, Nat.le_refl _, fun _ z => absurd rfl z, hS, rfl⟩
  | x :: items, F, S, a2, a6, hS, f => by
    obtain ⟨F1, S1, b6, e1, f1, g1, n1, P1, l1⟩ := field_turn (sub := sub) (k := k) (most := most) (a2 := some x) (a6 := a6) hD hI hB hS hw hm f
    obtain ⟨F2, S2, b2, c6, e2, f2, g2, n2, P2, l2⟩ := field_loop hD hI hB hw hm items F1 S1 (some x) b6 P1 f1
    refine ⟨F2, S2, b2, c6, ?_, f2, by omega, fun h0 _ z => ?_, P2, by omega⟩
    · unfold forL bindT
      show (match evCs _ (fieldBody d i) [some (.ref p), some (.int most), some x, some (.int wide), some (.int many), some (fD F), a6] S with
        | .ok (.nx e) S2 => _
        | .ok (.ct e) S2 => _
        | .ok (.bk e) S2 => _
        | r => r) = _
      rw [e1]
      exact e2
    · have := n1 h0
      rw [z] at g2
      have h := List.length_pos_iff.mpr this
      simp at g2
      rw [g2] at h
      simp at h
theorem field_ok {n d i j k p : Nat} {S : Store} {most : Int} (hF : T[n]? = some ⟨2, 7, false, c__law_field d i⟩) (hD : T[d]? = some ⟨2, 4, false, c__law_draw⟩) (hI : T[i]? = some ⟨2, 5, false, c__law_is_free j⟩) (hB : T[j]? = some ⟨3, 4, false, c__law_bend⟩) (hS : Pn S p) (h1 : 1 ≤ most) (h8 : most ≤ 8) :
    ∃ (F : List (Int × Int)) (S' : Store), run T sub (k + 3) n [.ref p, .int most] S = .ok (fD F) S' ∧ GF F ∧ (F.length : Int) ≤ most ∧ Pn S' p ∧ S'.length = S.length := by
  obtain ⟨v1, S1, e1, x0, x1, P1, l1⟩ := draw_ok2 (sub := sub) (k := k + 1) hD hS (m := 4) (by decide) (by decide)
  obtain ⟨v2, S2, e2, y0, y1, P2, l2⟩ := draw_ok2 (sub := sub) (k := k + 1) hD P1 (m := most) (by omega) (by omega)
  obtain ⟨v3, S3, e3, z0, z1, P3, l3⟩ := draw_ok2 (sub := sub) (k := k + 1) hD P2 (m := 2) (by decide) (by decide)
  obtain ⟨wide, hw, w0, w1⟩ : ∃ u : Int, L2.atI [D.int 3, D.int 6, D.int 12, D.int 40] v1 = some (.int u) ∧ 0 ≤ u ∧ u ≤ 40 := by
    have : v1 = 0 ∨ v1 = 1 ∨ v1 = 2 ∨ v1 = 3 := by omega
    rcases this with rfl | rfl | rfl | rfl
    · exact ⟨3, rfl, by decide, by decide⟩
    · exact ⟨6, rfl, by decide, by decide⟩
    · exact ⟨12, rfl, by decide, by decide⟩
    · exact ⟨40, rfl, by decide, by decide⟩
  obtain ⟨many, hm, m0, m1⟩ : ∃ u : Int, L2.atI [D.int (1 + v2), D.int most] v3 = some (.int u) ∧ 1 ≤ u ∧ u ≤ most := by
    have : v3 = 0 ∨ v3 = 1 := by omega
    rcases this with rfl | rfl
    · exact ⟨1 + v2, rfl, by omega, by omega⟩
    · exact ⟨most, rfl, by omega, by omega⟩
  obtain ⟨F, S4, b2, b6, e4, f4, g4, n4, P4, l4⟩ := field_loop (sub := sub) (k := k) (most := most) hD hI hB ⟨w0, w1⟩ (by omega : many ≤ 8) (rangeI 0 (3 * most)) [] S3 none none P3 (PF.nil (by omega))
  have hne : F ≠ [] := n4 (by omega) fun z => by
    have := congrArg List.length z
    unfold rangeI at this
    simp at this
    omega
  refine ⟨F, S4, ?_, ⟨List.length_pos_iff.mpr hne, by have := f4.few; omega, f4.box, f4.nd, f4.free⟩, by have := f4.few; omega, P4, by omega⟩
  refine call_ok hF rfl rfl P4.ok (by omega) (cln_fD F 57) ?_
  have hc : c__law_field d i = (.cons (.par [3, 4] (.cons (.ix (.lst (.cons (.cst (.int 3)) (.cons (.cst (.int 6)) (.cons (.cst (.int 12)) (.cons (.cst (.int 40)) .nil))))) (.call d (.cons (.var 0) (.cons (.cst (.int 4)) .nil)))) (.cons (.bop .add (.cst (.int 1)) (.call d (.cons (.var 0) (.cons (.var 1) .nil)))) .nil))) (.cons (.par [4, 5] (.cons (.ix (.lst (.cons (.var 4) (.cons (.var 1) .nil))) (.call d (.cons (.var 0) (.cons (.cst (.int 2)) .nil)))) (.cons (.tup .nil) .nil))) (.cons (.fr (.nm 2) (.rng (.cons (.bop .mul (.cst (.int 3)) (.var 1)) .nil)) (fieldBody d i)) (.cons (.ret (.var 5)) .nil)))) := rfl
  rw [hc]
  have hmul : mulOk 3 most = true := mulOk_l (by decide)
  have hr : rngD [.int (3 * most)] = some (rangeI 0 (3 * most)) := by
    unfold rngD
    exact if_pos (by rw [Bool.and_eq_true, decide_eq_true_eq, decide_eq_true_eq]; omega)
  have e4' : forL ⟨run T sub (k + 2), sub⟩ (.nm 2) (fun e S => evCs ⟨run T sub (k + 2), sub⟩ (fieldBody d i) e S) (rangeI 0 (3 * most)) [some (.ref p), some (.int most), none, some (.int wide), some (.int many), some (.tup []), none] S3 = _ := e4
  generalize fieldBody d i = FB at e4' ⊢
  have hlt : ¬ (most : Int) < 0 := by omega
  show evCs _ _ [some (.ref p), some (.int most), none, none, none, none, none] S = _
  simp [evCs, evC, evE, evEs, evIt, bindT, setAll, RS.of, R.bind, R.of, getV, bops, addD, mulD, hmul, e1, e2, e3, ixD, seqOf, view, hw, hm, LIM, hr, e4']
end
end Rs
end

section
set_option Elab.async false
set_option linter.all false
set_option maxRecDepth 100000
set_option maxHeartbeats 4000000
set_option autoImplicit false
/-! RsBase5: drawn lots, pens, texts of data. Own work; printed by mk2.sh. -/
namespace Rs
open PySem
section
variable {T : List Fn} {sub : Str → Str → Option Bool}
/-! ### lots -/
def upTo (n : Nat) : List Int := (List.range n).map fun (i : Nat) => (0 : Int) + (i : Int)
theorem rangeI_upTo (n : Nat) : rangeI 0 n = (upTo n).map .int := by
  unfold rangeI upTo
  rw [Int.sub_zero, Int.toNat_natCast, List.map_map]
  rfl
theorem gl_upTo (n : Nat) : GL n (upTo n) := by
  refine ⟨?_, fun x hx => ?_⟩
  · unfold upTo
    rw [List.pairwise_map]
    refine List.Pairwise.imp (R := (· < ·)) (fun {a b} h => by omega) List.pairwise_lt_range
  · unfold upTo at hx
    obtain ⟨i, hi, rfl⟩ := List.mem_map.mp hx
    have := List.mem_range.mp hi
    omega
theorem GL.part {n : Nat} {L M : List Int} (g : GL n L) (h : M.Sublist L) : GL n M := ⟨g.inc.sublist h, fun x hx => g.box x (h.subset hx)⟩
theorem comp_draws {f : D → Store → R (List D)} {p : Nat} (hf : ∀ (x : Int) (S : Store), Pn S p → ∃ (b : Bool) (S' : Store), f (.int x) S = .ok (if b = true then [.int x] else []) S' ∧ Pn S' p ∧ S'.length = S.length) :
    ∀ (L : List Int) (S : Store), Pn S p → ∃ (M : List Int) (S' : Store), compL f (L.map .int) S = .ok (M.map .int) S' ∧ M.Sublist L ∧ Pn S' p ∧ S'.length = S.length
  | [], S, h => ⟨[], S, rfl, List.Sublist.slnil, h, rfl⟩
  | x :: L, S, h => by
    obtain ⟨b, S1, e1, P1, l1⟩ := hf x S h
    obtain ⟨M, S2, e2, s2, P2, l2⟩ := comp_draws hf L S1 P1
    cases b with
    | true =>
      refine ⟨x :: M, S2, ?_, s2.cons_cons x, P2, by omega⟩
      rw [List.map_cons]
      unfold compL
      rw [e1]
      simp only [e2]
      rfl
    | false =>
      refine ⟨M, S2, ?_, s2.cons x, P2, by omega⟩
      rw [List.map_cons]
      unfold compL
      rw [e1]
      simp only [e2]
      rfl
theorem lot_ok {n d k p : Nat} {S : Store} (hT : T[n]? = some ⟨2, 4, false, c__law_lot d⟩) (hD : T[d]? = some ⟨2, 4, false, c__law_draw⟩) (hS : Pn S p) {F : List (Int × Int)} (hF : F.length ≤ 8) :
    ∃ (L : List Int) (S' : Store), run T sub (k + 2) n [.ref p, fD F] S = .ok (lD L) S' ∧ GL F.length L ∧ Pn S' p ∧ S'.length = S.length := by
  have hl := lenD_fD (S := S) F
  have hr : rngD [.int F.length] = some ((upTo F.length).map .int) := by
    rw [← rangeI_upTo]
    unfold rngD
    exact if_pos (by rw [Bool.and_eq_true, decide_eq_true_eq, decide_eq_true_eq]; omega)
  have step : ∀ f : D → Store → R (List D), (∀ d0 S, f d0 S = (bindT ⟨run T sub (k + 1), sub⟩ (.nm 3) d0 (wipeE [some (.ref p), some (fD F), some (lD (upTo F.length)), none] [3]) S).bind fun env1 S => (evTs ⟨run T sub (k + 1), sub⟩ (.cons (.cmp .gt (.call d (.cons (.var 0) (.cons (.cst (.int 4)) .nil))) (.cst (.int 0))) .nil) env1 S).bind fun b S =>
      if b = true then evGs ⟨run T sub (k + 1), sub⟩ .nil (fun e S => (evE ⟨run T sub (k + 1), sub⟩ (.var 3) e S).bind fun x S => .ok [x] S) env1 S else .ok [] S) →
      ∀ (x : Int) (S : Store), Pn S p → ∃ (b : Bool) (S' : Store), f (.int x) S = .ok (if b = true then [.int x] else []) S' ∧ Pn S' p ∧ S'.length = S.length := by
    intro f hf x S hS
    obtain ⟨v, S', e, v0, v1, P, l⟩ := draw_ok2 (sub := sub) (k := k) hD hS (m := 4) (by decide) (by decide)
    refine ⟨decide (v > 0), S', ?_, P, l⟩
    rw [hf]
    by_cases hv : v > 0
    · simp [bindT, wipeE, evTs, evGs, evE, evEs, R.bind, R.of, getV, e, cops, gtO, truth, hv]
    · simp [bindT, wipeE, evTs, evGs, evE, evEs, R.bind, R.of, getV, e, cops, gtO, truth, hv]
  have g := gl_upTo F.length
  obtain ⟨M, S1, s1, P1, l1, e2⟩ : ∃ (M : List Int) (S1 : Store), M.Sublist (upTo F.length) ∧ Pn S1 p ∧ S1.length = S.length ∧ evE ⟨run T sub (k + 1), sub⟩ (.lc [3] (.var 3) (.nm 3) (.of (.var 2)) (.cons (.cmp .gt (.call d (.cons (.var 0) (.cons (.cst (.int 4)) .nil))) (.cst (.int 0))) .nil) .nil) [some (.ref p), some (fD F), some (lD (upTo F.length)), none] S = .ok (.lst (M.map .int)) S1 := by
    obtain ⟨M, S1, e1, s1, P1, l1⟩ := comp_draws (p := p) (step _ fun _ _ => rfl) (upTo F.length) S hS
    refine ⟨M, S1, s1, P1, l1, ev_lcS (ds := (upTo F.length).map .int) rfl (fun f hf => ?_) (by rw [List.length_map]; exact lim_le (Nat.le_trans (g.part s1).len hF) (by decide))⟩
    rw [← e1]
    congr 1
    funext d0 S
    exact hf d0 S
  have hM := (g.part s1).len
  obtain ⟨v, S2, e3, v0, v1, P2, l2⟩ := draw_ok2 (sub := sub) (k := k) hD P1 (m := 3) (by decide) (by decide)
  obtain ⟨L, hL, gL⟩ : ∃ L : List Int, L2.atI [lD (upTo F.length), lD (upTo F.length), lD M] v = some (lD L) ∧ GL F.length L := by
    have : v = 0 ∨ v = 1 ∨ v = 2 := by omega
    rcases this with rfl | rfl | rfl
    · exact ⟨_, rfl, g⟩
    · exact ⟨_, rfl, g⟩
    · exact ⟨_, rfl, g.part s1⟩
  refine ⟨L, S2, call_ok hT rfl rfl P2.ok (by omega) (cln_lD L 58) ?_, gL, P2, by omega⟩
  unfold c__law_lot
  generalize (E.lc [3] (.var 3) (.nm 3) (.of (.var 2)) (.cons (.cmp .gt (.call d (.cons (.var 0) (.cons (.cst (.int 4)) .nil))) (.cst (.int 0))) .nil) .nil) = L1 at e2 ⊢
  have hlD : D.tup ((upTo F.length).map .int) = lD (upTo F.length) := rfl
  have hlM : D.tup (M.map .int) = lD M := rfl
  show evCs _ _ [some (.ref p), some (fD F), none, none] S = _
  simp [evCs, evC, evE, evEs, bindT, RS.of, R.bind, R.of, getV, bltD, hl, hr, hlD, tupleD, view, LIM, e2, hlM, e3, ixD, seqOf, hL]

/-! ### pens -/
theorem below_mono {n : Nat} : ∀ (m : Nat) (d : D), below n m d = true → below (n + 1) m d = true
  | 0, d, h => by cases d <;> cases h
  | m + 1, d, h => by
    cases d with
    | tup xs => exact List.all_eq_true.mpr fun x hx => below_mono m x (List.all_eq_true.mp h x hx)
    | lst xs => exact List.all_eq_true.mpr fun x hx => below_mono m x (List.all_eq_true.mp h x hx)
    | dct kvs => cases h
    | ref k => exact decide_eq_true (Nat.lt_succ_of_lt (of_decide_eq_true h))
    | _ => rfl
theorem cellBelow_mono {n : Nat} {c : Cell} (h : cellBelow n c = true) : cellBelow (n + 1) c = true := by
  cases c with
  | lst xs => exact List.all_eq_true.mpr fun x hx => below_mono DEP x (List.all_eq_true.mp h x hx)
  | dct kvs => cases h
  | ins c fs => exact List.all_eq_true.mpr fun x hx => below_mono DEP x.2 (List.all_eq_true.mp h x hx)
  | dead => rfl
theorem oks_push {S : Store} (h : OKS S) {c : Cell} (hc : ∀ n, cellBelow n c = true) : OKS (S ++ [c]) := by
  unfold OKS at h ⊢
  rw [List.length_append, List.all_append, Bool.and_eq_true]
  refine ⟨List.all_eq_true.mpr fun x hx => cellBelow_mono (List.all_eq_true.mp h x hx), ?_⟩
  rw [List.all_cons, hc]
  rfl
theorem pen_ok {i k : Nat} {S : Store} (hT : T[i]? = some ⟨1, 1, true, c__law_pen⟩) (hs : OKS S) (c : Int) : ∃ S', run T sub (k + 1) i [.int c] S = .ok (.ref S.length) S' ∧ Pn S' S.length ∧ S'.length = S.length + 1 := by
  have e : evCs ⟨run T sub k, sub⟩ c__law_pen [some (.int c)] S = .ok (.rt (.ref S.length)) (S ++ [.lst [.int (if 1000000000000000000 < c then c - 1000000000000000000 else 0), .int (c % 2147483629 + 1), .int 0]]) := by
    simp [c__law_pen, evCs, evC, evE, evEs, RS.of, R.bind, R.of, getV, bops, addD, subD, powD, modD, bltD, maxD, LIM, BIG]
  generalize (if 1000000000000000000 < c then c - 1000000000000000000 else 0) = a at e
  generalize c % 2147483629 + 1 = b at e
  have r : run T sub (k + 1) i [.int c] S = .ok (.ref S.length) (S ++ [.lst [.int a, .int b, .int 0]]) := call_keep hT rfl rfl e
  exact ⟨_, r, ⟨oks_push hs (pen_below a b 0), a, b, 0, by simp⟩, by simp⟩
end
end Rs
end

section
set_option Elab.async false
set_option linter.all false
set_option maxRecDepth 100000
set_option maxHeartbeats 4000000
set_option autoImplicit false
/-! RsK36: law k36's own defs and what they give. Own work; printed by k36.py. -/
namespace Rs
open PySem
def c_sides_by (i_side : Nat) : Cs := (.cons (.asg (.nm 4) (.lc [5] (.call i_side (.cons (.var 0) (.cons (.var 2) (.cons (.var 3) (.cons (.var 5) .nil))))) (.nm 5) (.of (.var 1)) .nil .nil)) (.cons (.ret (.tup (.cons (.mth .count (.var 4) (.cons (.cst (.int 1)) .nil)) (.cons (.mth .count (.var 4) (.cons (.neg (.cst (.int 1))) .nil)) .nil)))) .nil))
def c_sides (i_need_lot : Nat) (i_need_stake : Nat) (i_less : Nat) (i_sides_by : Nat) : Cs := (.cons (.expr (.call i_need_lot (.cons (.var 0) (.cons (.var 1) .nil)))) (.cons (.expr (.call i_need_stake (.cons (.var 1) (.cons (.var 2) .nil)))) (.cons (.expr (.call i_need_stake (.cons (.call i_less (.cons (.var 1) (.cons (.var 2) .nil))) (.cons (.var 3) .nil)))) (.cons (.ret (.call i_sides_by (.cons (.var 0) (.cons (.var 1) (.cons (.var 2) (.cons (.var 3) .nil)))))) .nil))))
def c__law_right (i__law_bend : Nat) (i_sides : Nat) (i__law_same : Nat) : Cs := (.cons (.asg (.nm 4) (.lc [8] (.call i__law_bend (.cons (.ix (.var 0) (.var 2)) (.cons (.ix (.var 0) (.var 3)) (.cons (.ix (.var 0) (.var 8)) .nil)))) (.nm 8) (.of (.var 1)) (.cons (.cmp .nin (.var 8) (.tup (.cons (.var 2) (.cons (.var 3) .nil)))) .nil) .nil)) (.cons (.par [6, 7] (.cons (.tup (.cons (.blt .len (.cons (.lc [10] (.cst (.int 1)) (.nm 10) (.of (.var 4)) (.cons (.cmp .gt (.var 10) (.cst (.int 0))) .nil) .nil) .nil)) (.cons (.blt .len (.cons (.lc [10] (.cst (.int 1)) (.nm 10) (.of (.var 4)) (.cons (.cmp .lt (.var 10) (.cst (.int 0))) .nil) .nil) .nil)) .nil))) (.cons (.blt .repr (.cons (.tup (.cons (.var 0) (.cons (.var 1) .nil))) .nil)) .nil))) (.cons (.asg (.nm 5) (.lc [9] (.call i_sides (.cons (.var 0) (.cons (.var 1) (.cons (.var 2) (.cons (.var 3) .nil))))) (.nm 9) (.rng (.cons (.cst (.int 2)) .nil)) .nil .nil)) (.cons (.ret (.and (.call i__law_same (.cons (.var 5) (.cons (.lst (.cons (.var 6) (.cons (.var 6) .nil))) .nil))) (.cmp .eq (.blt .repr (.cons (.tup (.cons (.var 0) (.cons (.var 1) .nil))) .nil)) (.var 7)))) .nil))))
def c_law (i__law_cell_at : Nat) (i__law_pen : Nat) (i__law_field : Nat) (i__law_lot : Nat) (i__law_right : Nat) : Cs := (.cons (.fr (.nm 1) (.of (.bop .add (.lst (.cons (.call i__law_cell_at (.cons (.var 0) (.cons (.cst (.int 0)) .nil))) .nil)) (.sl (.var 0) (.cons (.cst (.int 1)) .nil) (.cons (.cst (.int 3)) .nil)))) (.cons (.asg (.nm 2) (.call i__law_pen (.cons (.var 1) .nil))) (.cons (.fr (.nm 3) (.rng (.cons (.cst (.int 4)) .nil)) (.cons (.asg (.nm 4) (.call i__law_field (.cons (.var 2) (.cons (.ix (.lst (.cons (.cst (.int 8)) (.cons (.cst (.int 8)) (.cons (.cst (.int 5)) (.cons (.cst (.int 3)) .nil))))) (.var 3)) .nil)))) (.cons (.asg (.nm 5) (.call i__law_lot (.cons (.var 2) (.cons (.var 4) .nil)))) (.cons (.fr (.nm 6) (.of (.var 5)) (.cons (.fr (.nm 7) (.of (.var 5)) (.cons (.ite (.and (.cmp .ne (.var 6) (.var 7)) (.not (.call i__law_right (.cons (.var 4) (.cons (.var 5) (.cons (.var 6) (.cons (.var 7) .nil))))))) (.cons (.ret (.cst (.bl false))) .nil) .nil) .nil)) .nil)) .nil)))) .nil))) (.cons (.ret (.cst (.bl true))) .nil))
/-! ### texts of data -/
theorem shown_all : ∀ xs : List D, PyData.shownAll (toPys xs) = xs.map fun x => (toPy x).shown
  | [] => rfl
  | x :: xs => by
    unfold toPys PyData.shownAll
    rw [shown_all xs]
    rfl
theorem piled_le {b : Nat} : ∀ ts : List Str, (∀ t ∈ ts, t.length ≤ b) → piled ts ≤ ts.length * (b + 2)
  | [], _ => by simp [piled]
  | t :: ts, h => by
    rw [piled_cons, List.length_cons, Nat.succ_mul]
    have h1 := h t List.mem_cons_self
    have h2 := piled_le ts fun x hx => h x (List.mem_cons_of_mem _ hx)
    omega
theorem join_le : ∀ ts : List Str, (Str.join ", " ts).length ≤ piled ts
  | [] => by decide
  | t :: ts => by
    have := join_length_add (t :: ts) (by simp)
    omega
theorem tup_le {b : Nat} {xs : List D} (h : ∀ x ∈ xs, (toPy x).shown.length ≤ b) : (toPy (.tup xs)).shown.length ≤ xs.length * (b + 2) + 3 := by
  have e : (toPy (.tup xs)).shown = tupleText (xs.map fun x => (toPy x).shown) := by
    rw [← shown_all]
    unfold toPy PyData.shown
    rfl
  rw [e]
  unfold tupleText
  rw [strLen_append, strLen_append]
  have h1 := join_le (xs.map fun x => (toPy x).shown)
  have h2 := piled_le (b := b) (xs.map fun x => (toPy x).shown) (fun t ht => by
    obtain ⟨x, hx, rfl⟩ := List.mem_map.mp ht
    exact h x hx)
  rw [List.length_map] at h2
  have h3 : ("(" : Str).length = 1 := by decide
  have h4 : (if (xs.map fun x => (toPy x).shown).length == 1 then ",)" else ")" : String).toList.length ≤ 2 := by split <;> decide
  have h5 : ((if (xs.map fun x => (toPy x).shown).length == 1 then ",)" else ")" : String) : Str).length ≤ 2 := by split <;> decide
  omega
theorem int_le {i : Int} (h : 0 ≤ i ∧ i ≤ 40) : (toPy (.int i)).shown.length ≤ 4 := by
  have key : ∀ n : Nat, n ≤ 40 → (toPy (.int (n : Int))).shown.length ≤ 4 := by decide +kernel
  have := key i.toNat (by omega)
  rw [Int.toNat_of_nonneg h.1] at this
  exact this
theorem shw_int {i : Int} (h : 0 ≤ i ∧ i ≤ 40) (m : Nat) : shw m (.int i) = true := by
  have : i.natAbs < 2 ^ 1900 := Nat.lt_of_le_of_lt (m := 40) (by omega) (by decide +kernel)
  cases m <;> exact decide_eq_true this
theorem pD_text {p : Int × Int} (h : inBox p) : (toPy (pD p)).shown.length ≤ 15 := by
  refine Nat.le_trans (tup_le (b := 4) (xs := [.int p.1, .int p.2]) fun x hx => ?_) (by show 2 * (4 + 2) + 3 ≤ 15; decide)
  simp at hx
  rcases hx with rfl | rfl
  · exact int_le h.1
  · exact int_le h.2
section
variable {T : List Fn} {sub : Str → Str → Option Bool} {S : Store}
theorem fl_repr {F : List (Int × Int)} (g : GF F) {L : List Int} (gl : GL F.length L) : ∃ x, reprD S [.tup [fD F, lD L]] = some (.str x) := by
  have hfew := g.few
  have h1 : (toPy (fD F)).shown.length ≤ 200 := by
    refine Nat.le_trans (tup_le (b := 15) (xs := F.map pD) fun x hx => ?_) (by rw [List.length_map]; omega)
    obtain ⟨p, hp, rfl⟩ := List.mem_map.mp hx
    exact pD_text (g.box p hp)
  have h2 : (toPy (lD L)).shown.length ≤ 200 := by
    refine Nat.le_trans (tup_le (b := 4) (xs := L.map .int) fun x hx => ?_) (by rw [List.length_map]; have := gl.len; omega)
    obtain ⟨p, hp, rfl⟩ := List.mem_map.mp hx
    have := gl.box p hp
    exact int_le ⟨this.1, by omega⟩
  have h3 : (toPy (.tup [fD F, lD L])).shown.length ≤ LIM := by
    refine Nat.le_trans (tup_le (b := 200) (xs := [fD F, lD L]) fun x hx => ?_) (by show 2 * (200 + 2) + 3 ≤ 100000; decide)
    simp at hx
    rcases hx with rfl | rfl
    · exact h1
    · exact h2
  have s1 : shw 29 (fD F) = true := List.all_eq_true.mpr fun x hx => by
    obtain ⟨p, hp, rfl⟩ := List.mem_map.mp hx
    have hb := g.box p hp
    show ([D.int p.1, D.int p.2].all (shw 27)) = true
    simp [shw_int hb.1, shw_int hb.2]
  have s2 : shw 29 (lD L) = true := List.all_eq_true.mpr fun x hx => by
    obtain ⟨p, hp, rfl⟩ := List.mem_map.mp hx
    have := gl.box p hp
    exact shw_int ⟨this.1, by omega⟩ _
  have s3 : shw 30 (.tup [fD F, lD L]) = true := by
    show ([fD F, lD L].all (shw 29)) = true
    simp [s1, s2]
  exact ⟨_, if_pos (by rw [Bool.and_eq_true]; exact ⟨s3, decide_eq_true h3⟩)⟩
theorem told_repr {m n : Nat} (hm : m ≤ 8) (hn : n ≤ 8) : ∃ x, reprD S [.lst [.tup [.int m, .int n], .tup [.int m, .int n]]] = some (.str x) := by
  have key : ∀ m : Nat, m ≤ 8 → ∀ n : Nat, n ≤ 8 → (shw 30 (.lst [.tup [.int m, .int n], .tup [.int m, .int n]]) && decide ((toPy (.lst [.tup [.int m, .int n], .tup [.int m, .int n]])).shown.length ≤ LIM)) = true := by decide +kernel
  exact ⟨_, if_pos (key m hm n hn)⟩
theorem same_ok {i k : Nat} (hT : T[i]? = some ⟨2, 2, false, c__law_same⟩) (hs : OKS S) {d : D} {x : Str} (h : reprD S [d] = some (.str x)) : run T sub (k + 1) i [d, d] S = .ok (.bl true) S :=
  call_ok hT rfl rfl hs rfl rfl (by
    show evCs _ _ [some d, some d] S = _
    simp [c__law_same, evCs, evC, evE, evEs, RS.of, R.bind, R.of, getV, bltD, h, cops, eqD])

/-! ### sides -/
def at_ (F : List (Int × Int)) (x : Int) : Int × Int := F.getD x.toNat (0, 0)
theorem at_get {F : List (Int × Int)} {x : Int} (h : 0 ≤ x ∧ x < F.length) : F[x.toNat]? = some (at_ F x) ∧ x = (x.toNat : Nat) := by
  have hl : x.toNat < F.length := by omega
  refine ⟨?_, by omega⟩
  unfold at_
  rw [List.getD_eq_getElem?_getD, List.getElem?_eq_getElem hl, Option.getD_some]
theorem cnt_map (s : Int → Int) (L : List Int) (c : Int) : cntD S (.lst (L.map fun x => .int (s x))) [.int c] = some (.int (L.countP fun x => decide (s x = c) : Nat)) := by
  have h1 : (L.map fun x => D.int (s x)).all (shd DEP) = true := by rw [List.all_map]; simp [shd, DEP]
  have h2 : (L.map fun x => D.int (s x)).countP (fun y => eqv y (.int c)) = L.countP fun x => decide (s x = c) := by
    rw [List.countP_map]
    refine List.countP_congr fun x _ => ?_
    show eqv (.int (s x)) (.int c) = true ↔ _
    unfold eqv
    simp
  show (if (shd DEP (.int c) && (L.map fun x => D.int (s x)).all (shd DEP)) = true then some (D.int (((L.map fun x => D.int (s x)).countP fun y => eqv y (.int c) : Nat) : Int)) else none) = _
  rw [h1, h2]
  rfl
theorem sides_by_ok (x : Fld T) {i j k : Nat} (hT : T[i]? = some ⟨4, 6, false, c_sides_by j⟩) (hj : T[j]? = some ⟨4, 5, false, c_side x.bend⟩) (hs : OKS S) {F : List (Int × Int)} (g : GF F) {L : List Int} (gl : GL F.length L) {a b : Nat} {p q : Int × Int} (ha : F[a]? = some p) (hb : F[b]? = some q) :
    run T sub (k + 3) i [fD F, lD L, .int a, .int b] S = .ok (.tup [.int (L.countP fun x => decide (sgn (bendI p q (at_ F x)) = 1) : Nat), .int (L.countP fun x => decide (sgn (bendI p q (at_ F x)) = -1) : Nat)]) S := by
  have e : evE ⟨run T sub (k + 2), sub⟩ (.lc [5] (.call j (.cons (.var 0) (.cons (.var 2) (.cons (.var 3) (.cons (.var 5) .nil))))) (.nm 5) (.of (.var 1)) .nil .nil) [some (fD F), some (lD L), some (.int a), some (.int b), none, none] S = .ok (.lst (L.map fun x => .int (sgn (bendI p q (at_ F x))))) S := by
    have := ev_map (X := ⟨run T sub (k + 2), sub⟩) (i := 5) (elt := .call j (.cons (.var 0) (.cons (.var 2) (.cons (.var 3) (.cons (.var 5) .nil))))) (it := .of (.var 1)) (env := [some (fD F), some (lD L), some (.int a), some (.int b), none, none]) (S := S) (S1 := S) (ds := L.map .int)
      (fun d => match d with
        | .int x => .int (sgn (bendI p q (at_ F x)))
        | _ => .non) rfl (fun d hd => by
        obtain ⟨y, hy, rfl⟩ := List.mem_map.mp hd
        obtain ⟨g1, g2⟩ := at_get (gl.box y hy)
        have r := side_ok (sub := sub) (k := k) x hj hs g ha hb g1
        rw [← g2] at r
        simp [evE, evEs, R.bind, R.of, getV, r]) (by rw [List.length_map]; exact lim_le (Nat.le_trans gl.len g.few) (by decide))
    rw [this, List.map_map]
    rfl
  have c1 := cnt_map (S := S) (fun x => sgn (bendI p q (at_ F x))) L 1
  have c2 := cnt_map (S := S) (fun x => sgn (bendI p q (at_ F x))) L (-1)
  refine call_ok hT rfl rfl hs rfl rfl ?_
  unfold c_sides_by
  generalize (E.lc [5] (.call j (.cons (.var 0) (.cons (.var 2) (.cons (.var 3) (.cons (.var 5) .nil))))) (.nm 5) (.of (.var 1)) .nil .nil) = L1 at e ⊢
  generalize (L.map fun x => D.int (sgn (bendI p q (at_ F x)))) = l1 at e c1 c2
  show evCs _ _ [some (fD F), some (lD L), some (.int a), some (.int b), none, none] S = _
  simp [evCs, evC, evE, evEs, bindT, RS.of, R.bind, R.of, getV, e, view, mthD, c1, c2, LIM]
theorem sides_ok (x : Fld T) {n i0 i1 i2 i3 j1 j2 j3 j4 k : Nat} (hT : T[n]? = some ⟨4, 4, false, c_sides i3 j1 j2 j3⟩) (hL : T[i3]? = some ⟨2, 2, false, c_need_lot i2⟩) (hI : T[i2]? = some ⟨2, 2, false, c_is_lot i0 i1⟩) (hN : T[i0]? = some ⟨1, 1, false, c_need_field x.field⟩) (h1 : T[i1]? = some ⟨2, 4, false, c_are_numbers x.among⟩)
    (hj1 : T[j1]? = some ⟨2, 2, false, c_need_stake x.whole⟩) (hj2 : T[j2]? = some ⟨2, 3, false, c_less⟩) (hj3 : T[j3]? = some ⟨4, 6, false, c_sides_by j4⟩) (hj4 : T[j4]? = some ⟨4, 5, false, c_side x.bend⟩) (hs : OKS S) {F : List (Int × Int)} (g : GF F) {L : List Int} (gl : GL F.length L) {a b : Nat} {p q : Int × Int}
    (ha : F[a]? = some p) (hb : F[b]? = some q) (ma : (a : Int) ∈ L) (mb : (b : Int) ∈ L) (hab : (b : Int) ≠ a) :
    run T sub (k + 8) n [fD F, lD L, .int a, .int b] S = .ok (.tup [.int (L.countP fun x => decide (sgn (bendI p q (at_ F x)) = 1) : Nat), .int (L.countP fun x => decide (sgn (bendI p q (at_ F x)) = -1) : Nat)]) S := by
  have e1 := need_lot_ok (sub := sub) (k := k) x hL hI hN h1 hs g gl
  have e2 := need_stake_ok (sub := sub) (k := k + 5) hj1 x.w hs ma
  have e3 := less_ok (sub := sub) (k := k + 6) hj2 hs (L := L) (by have := gl.len; have := g.few; omega) (a : Int)
  have e4 := need_stake_ok (sub := sub) (k := k + 5) hj1 x.w hs (L := L.filter fun y => decide (y ≠ (a : Int))) (x := (b : Int)) (List.mem_filter.mpr ⟨mb, decide_eq_true hab⟩)
  have e5 := sides_by_ok (sub := sub) (k := k + 4) x hj3 hj4 hs g gl ha hb
  refine call_ok hT rfl rfl hs rfl rfl ?_
  show evCs _ _ [some (fD F), some (lD L), some (.int a), some (.int b)] S = _
  simp only [c_sides, evCs, evC, evE, evEs, RS.of, R.bind, R.of, getV, List.getElem?_cons_zero, List.getElem?_cons_succ, e1, e2, e3, e4, e5]
theorem sgn_pos (z : Int) : sgn z = 1 ↔ z > 0 := by unfold sgn; split <;> split <;> omega
theorem sgn_neg (z : Int) : sgn z = -1 ↔ z < 0 := by unfold sgn; split <;> split <;> omega
theorem bend_self1 (p q : Int × Int) : bendI p q p = 0 := by simp [bendI]
theorem bend_self2 (p q : Int × Int) : bendI p q q = 0 := by unfold bendI; rw [Int.mul_comm]; omega
theorem cnt_eq {L : List Int} {f : Int → Int} {a b : Int} (ha : f a = 0) (hb : f b = 0) (t : Int → Bool) (s : Int → Bool) (h0 : t 0 = false) (hs : ∀ x, s x = t (f x)) :
    L.countP s = (((L.filter fun x => !decide (x ∈ [a, b])).map f).filter t).length := by
  rw [← List.countP_eq_length_filter, List.countP_map, List.countP_filter]
  refine List.countP_congr fun x _ => ?_
  rw [hs]
  show t (f x) = true ↔ (t (f x) && !decide (x ∈ [a, b])) = true
  by_cases h : x ∈ [a, b]
  · simp at h
    rcases h with rfl | rfl
    · simp [ha, h0]
    · simp [hb, h0]
  · simp only [h, decide_false, Bool.not_false, Bool.and_true]
theorem ints_filter {X : Fx} {i : Nat} {q : E} {it : It} {env : Nv} {TL : List Int} (t : Int → Bool) (hi : evIt X it env S = .ok (TL.map .int) S) (hl : TL.length ≤ 100) (hq : ∀ x : Int, evE X q ((env.set i none).set i (some (.int x))) S = .ok (.bl (t x)) S) :
    evE X (.lc [i] (.cst (.int 1)) (.nm i) it (.cons q .nil) .nil) env S = .ok (.lst ((TL.filter t).map fun _ => .int 1)) S := by
  have := ev_filter (X := X) (i := i) (elt := .cst (.int 1)) (q := q) (it := it) (env := env) (S := S) (S1 := S) (ds := TL.map .int) (fun d => match d with
    | .int x => t x
    | _ => false) (fun _ => .int 1) hi (fun d hd => by
      obtain ⟨y, hy, rfl⟩ := List.mem_map.mp hd
      exact ⟨_, hq y, rfl⟩) (fun d hd _ => by simp [evE]) (by rw [List.length_map]; exact lim_le hl (by decide))
  rw [this]
  congr 2
  rw [List.filter_map, List.map_map]
  rfl
theorem right_ok (x : Fld T) {n jb js jm i0 i1 i2 i3 j1 j2 j3 j4 k : Nat} (hR : T[n]? = some ⟨4, 11, false, c__law_right jb js jm⟩) (hB : T[jb]? = some ⟨3, 4, false, c__law_bend⟩) (hM : T[jm]? = some ⟨2, 2, false, c__law_same⟩) (hT : T[js]? = some ⟨4, 4, false, c_sides i3 j1 j2 j3⟩) (hL : T[i3]? = some ⟨2, 2, false, c_need_lot i2⟩)
    (hI : T[i2]? = some ⟨2, 2, false, c_is_lot i0 i1⟩) (hN : T[i0]? = some ⟨1, 1, false, c_need_field x.field⟩) (h1 : T[i1]? = some ⟨2, 4, false, c_are_numbers x.among⟩) (hj1 : T[j1]? = some ⟨2, 2, false, c_need_stake x.whole⟩) (hj2 : T[j2]? = some ⟨2, 3, false, c_less⟩) (hj3 : T[j3]? = some ⟨4, 6, false, c_sides_by j4⟩) (hj4 : T[j4]? = some ⟨4, 5, false, c_side x.bend⟩)
    (hs : OKS S) {F : List (Int × Int)} (g : GF F) {L : List Int} (gl : GL F.length L) {a b : Nat} (ma : (a : Int) ∈ L) (mb : (b : Int) ∈ L) (hab : (b : Int) ≠ a) : run T sub (k + 9) n [fD F, lD L, .int a, .int b] S = .ok (.bl true) S := by
  obtain ⟨ga, -⟩ := at_get (gl.box _ ma)
  obtain ⟨gb, -⟩ := at_get (gl.box _ mb)
  rw [Int.toNat_natCast] at ga gb
  have hlen : L.length ≤ 8 := Nat.le_trans gl.len g.few
  generalize hp : at_ F (a : Int) = p at ga
  generalize hq : at_ F (b : Int) = q at gb
  have es := sides_ok (sub := sub) (k := k) x hT hL hI hN h1 hj1 hj2 hj3 hj4 hs g gl ga gb ma mb hab
  -- the turns
  have et : evE ⟨run T sub (k + 8), sub⟩ (.lc [8] (.call jb (.cons (.ix (.var 0) (.var 2)) (.cons (.ix (.var 0) (.var 3)) (.cons (.ix (.var 0) (.var 8)) .nil)))) (.nm 8) (.of (.var 1)) (.cons (.cmp .nin (.var 8) (.tup (.cons (.var 2) (.cons (.var 3) .nil)))) .nil) .nil) [some (fD F), some (lD L), some (.int a), some (.int b), none, none, none, none, none, none, none] S
      = .ok (.lst (((L.filter fun x => !decide (x ∈ [(a : Int), (b : Int)])).map fun x => bendI p q (at_ F x)).map .int)) S := by
    have := ev_filter (X := ⟨run T sub (k + 8), sub⟩) (i := 8) (elt := .call jb (.cons (.ix (.var 0) (.var 2)) (.cons (.ix (.var 0) (.var 3)) (.cons (.ix (.var 0) (.var 8)) .nil)))) (q := .cmp .nin (.var 8) (.tup (.cons (.var 2) (.cons (.var 3) .nil)))) (it := .of (.var 1))
      (env := [some (fD F), some (lD L), some (.int a), some (.int b), none, none, none, none, none, none, none]) (S := S) (S1 := S) (ds := L.map .int) (fun d => match d with
        | .int x => !decide (x ∈ [(a : Int), (b : Int)])
        | _ => false) (fun d => match d with
        | .int x => .int (bendI p q (at_ F x))
        | _ => .non) rfl (fun d hd => by
        obtain ⟨y, hy, rfl⟩ := List.mem_map.mp hd
        refine ⟨.bl (!decide (y ∈ [(a : Int), (b : Int)])), ?_, rfl⟩
        have hi := inD_lot (S := S) y [(a : Int), (b : Int)]
        have hi : inD S (.int y) (.tup [.int a, .int b]) = some (decide (y ∈ [(a : Int), (b : Int)])) := hi
        generalize decide (y ∈ [(a : Int), (b : Int)]) = z at hi ⊢
        simp [evE, evEs, R.bind, R.of, getV, cops, hi, LIM]) (fun d hd _ => by
        obtain ⟨y, hy, rfl⟩ := List.mem_map.mp hd
        obtain ⟨g1, g2⟩ := at_get (gl.box y hy)
        have r := lbend_ok (sub := sub) (k := k + 7) (r := at_ F y) hB hs (g.box p (List.mem_of_getElem? ga)) (g.box q (List.mem_of_getElem? gb))
        have gy := atI_fD g1
        rw [← g2] at gy
        simp [evE, evEs, R.bind, R.of, getV, ixD, seqOf, view, fD, atI_fD ga, atI_fD gb, gy, r]) (by rw [List.length_map]; exact lim_le hlen (by decide))
    rw [this]
    congr 2
    rw [List.filter_map, List.map_map, List.map_map]
    rfl
  have hcp := cnt_eq (L := L) (f := fun x => bendI p q (at_ F x)) (a := a) (b := b) (by rw [hp]; exact bend_self1 p q) (by rw [hq]; exact bend_self2 p q) (fun z => decide (z > 0)) (fun x => decide (sgn (bendI p q (at_ F x)) = 1)) rfl fun x => decide_eq_decide.mpr (sgn_pos _)
  have hcn := cnt_eq (L := L) (f := fun x => bendI p q (at_ F x)) (a := a) (b := b) (by rw [hp]; exact bend_self1 p q) (by rw [hq]; exact bend_self2 p q) (fun z => decide (z < 0)) (fun x => decide (sgn (bendI p q (at_ F x)) = -1)) rfl fun x => decide_eq_decide.mpr (sgn_neg _)
  have hmP : (L.countP fun x => decide (sgn (bendI p q (at_ F x)) = 1)) ≤ 8 := Nat.le_trans List.countP_le_length hlen
  have hmN : (L.countP fun x => decide (sgn (bendI p q (at_ F x)) = -1)) ≤ 8 := Nat.le_trans List.countP_le_length hlen
  have hTL : ((L.filter fun x => !decide (x ∈ [(a : Int), (b : Int)])).map fun x => bendI p q (at_ F x)).length ≤ 100 := by
    rw [List.length_map]
    exact Nat.le_trans (List.length_filter_le _ _) (by omega)
  generalize (L.countP fun x => decide (sgn (bendI p q (at_ F x)) = 1)) = P at es hcp hmP
  generalize (L.countP fun x => decide (sgn (bendI p q (at_ F x)) = -1)) = M at es hcn hmN
  generalize ((L.filter fun x => !decide (x ∈ [(a : Int), (b : Int)])).map fun x => bendI p q (at_ F x)) = TL at et hcp hcn hTL
  have ep := ints_filter (S := S) (X := ⟨run T sub (k + 8), sub⟩) (i := 10) (q := .cmp .gt (.var 10) (.cst (.int 0))) (it := .of (.var 4)) (env := [some (fD F), some (lD L), some (.int a), some (.int b), some (.lst (TL.map .int)), none, none, none, none, none, none]) (TL := TL) (fun z => decide (z > 0)) rfl hTL fun x => by
    simp [evE, R.bind, R.of, getV, cops, gtO]
  have en := ints_filter (S := S) (X := ⟨run T sub (k + 8), sub⟩) (i := 10) (q := .cmp .lt (.var 10) (.cst (.int 0))) (it := .of (.var 4)) (env := [some (fD F), some (lD L), some (.int a), some (.int b), some (.lst (TL.map .int)), none, none, none, none, none, none]) (TL := TL) (fun z => decide (z < 0)) rfl hTL fun x => by
    simp [evE, R.bind, R.of, getV, cops, ltO]
  have lp : lenD S [.lst ((TL.filter fun z => decide (z > 0)).map fun _ => .int 1)] = some (.int P) := by simp [lenD, seqOf, view, hcp]
  have ln : lenD S [.lst ((TL.filter fun z => decide (z < 0)).map fun _ => .int 1)] = some (.int M) := by simp [lenD, seqOf, view, hcn]
  generalize ((TL.filter fun z => decide (z > 0)).map fun _ => D.int 1) = l1 at ep lp
  generalize ((TL.filter fun z => decide (z < 0)).map fun _ => D.int 1) = l2 at en ln
  generalize D.lst (TL.map .int) = td at et ep en
  obtain ⟨kp, hk⟩ := fl_repr (S := S) g gl
  obtain ⟨kt, ht⟩ := told_repr (S := S) hmP hmN
  have em := same_ok (sub := sub) (k := k + 7) hM hs ht
  have etold : evE ⟨run T sub (k + 8), sub⟩ (.lc [9] (.call js (.cons (.var 0) (.cons (.var 1) (.cons (.var 2) (.cons (.var 3) .nil))))) (.nm 9) (.rng (.cons (.cst (.int 2)) .nil)) .nil .nil) [some (fD F), some (lD L), some (.int a), some (.int b), some td, none, some (.tup [.int P, .int M]), some (.str kp), none, none, none] S = .ok (.lst [.tup [.int P, .int M], .tup [.int P, .int M]]) S :=
    ev_map (ds := [.int 0, .int 1]) (fun _ => .tup [.int P, .int M]) rfl (fun d hd => by simp [evE, evEs, R.bind, R.of, getV, es]) (by decide)
  refine call_ok hR rfl rfl hs rfl rfl ?_
  unfold c__law_right
  generalize (E.lc [8] (.call jb (.cons (.ix (.var 0) (.var 2)) (.cons (.ix (.var 0) (.var 3)) (.cons (.ix (.var 0) (.var 8)) .nil)))) (.nm 8) (.of (.var 1)) (.cons (.cmp .nin (.var 8) (.tup (.cons (.var 2) (.cons (.var 3) .nil)))) .nil) .nil) = L1 at et ⊢
  generalize (E.lc [10] (.cst (.int 1)) (.nm 10) (.of (.var 4)) (.cons (.cmp .gt (.var 10) (.cst (.int 0))) .nil) .nil) = L2 at ep ⊢
  generalize (E.lc [10] (.cst (.int 1)) (.nm 10) (.of (.var 4)) (.cons (.cmp .lt (.var 10) (.cst (.int 0))) .nil) .nil) = L3 at en ⊢
  generalize (E.lc [9] (.call js (.cons (.var 0) (.cons (.var 1) (.cons (.var 2) (.cons (.var 3) .nil))))) (.nm 9) (.rng (.cons (.cst (.int 2)) .nil)) .nil .nil) = L4 at etold ⊢
  show evCs _ _ [some (fD F), some (lD L), some (.int a), some (.int b), none, none, none, none, none, none, none] S = _
  simp [evCs, evC, evE, evEs, bindT, setAll, RS.of, R.bind, R.of, getV, et, ep, en, lp, ln, bltD, hk, etold, em, truth, cops, eqD, LIM]
/-! ### the law -/
theorem cell_at_ok {i k : Nat} (hT : T[i]? = some ⟨2, 2, false, c__law_cell_at⟩) (hs : OKS S) (ns : List Int) : ∃ c : Int, run T sub (k + 1) i [.scr ns, .int 0] S = .ok (.int c) S := by
  cases ns with
  | nil =>
    exact ⟨0, call_ok hT rfl rfl hs rfl rfl (by
      show evCs _ _ [some (.scr []), some (.int 0)] S = _
      simp [c__law_cell_at, evCs, evC, evE, evEs, evIt, evTs, evGs, evPt, bindT, bindTs, RS.of, R.bind, R.of, getV, bops, cops, addD, subD, mulD, modD, fdivD, powD, ltO, leO, gtO, geO, truth, ixD, seqOf, view, bltD, lenD, maxD, intD, isi, L2.atI, L2.ixN, setAll, tgsLen, wipeE, slT, slTs, slG])⟩
  | cons c r =>
    have ha : L2.atI ((c :: r).map D.int) 0 = some (.int c) := L2.atI_nat (j := 0) rfl
    have hl : lenD S [.scr (c :: r)] = some (.int (r.length + 1)) := by simp [lenD, seqOf, view]
    have h0 : (0 : Int) < r.length + 1 := by omega
    exact ⟨c, call_ok hT rfl rfl hs rfl rfl (by
      show evCs _ _ [some (.scr (c :: r)), some (.int 0)] S = _
      simp only [List.map_cons] at ha
      simp [c__law_cell_at, evCs, evC, evE, evEs, RS.of, R.bind, R.of, getV, bltD, hl, cops, ltO, h0, truth, ixD, seqOf, view, ha])⟩
def body4 (r : Nat) : Cs := .cons (.ite (.and (.cmp .ne (.var 6) (.var 7)) (.not (.call r (.cons (.var 4) (.cons (.var 5) (.cons (.var 6) (.cons (.var 7) .nil))))))) (.cons (.ret (.cst (.bl false))) .nil) .nil) .nil
def body3 (r : Nat) : Cs := .cons (.fr (.nm 7) (.of (.var 5)) (body4 r)) .nil
def body2 (f l r : Nat) : Cs := .cons (.asg (.nm 4) (.call f (.cons (.var 2) (.cons (.ix (.lst (.cons (.cst (.int 8)) (.cons (.cst (.int 8)) (.cons (.cst (.int 5)) (.cons (.cst (.int 3)) .nil))))) (.var 3)) .nil)))) (.cons (.asg (.nm 5) (.call l (.cons (.var 2) (.cons (.var 4) .nil)))) (.cons (.fr (.nm 6) (.of (.var 5)) (body3 r)) .nil))
def body1 (p f l r : Nat) : Cs := .cons (.asg (.nm 2) (.call p (.cons (.var 1) .nil))) (.cons (.fr (.nm 3) (.rng (.cons (.cst (.int 4)) .nil)) (body2 f l r)) .nil)
/-- what is wanted of right -/
def RightOk (T : List Fn) (sub : Str → Str → Option Bool) (k r : Nat) : Prop := ∀ (S : Store) (F : List (Int × Int)) (L : List Int) (a b : Nat), OKS S → GF F → GL F.length L → (a : Int) ∈ L → (b : Int) ∈ L → (b : Int) ≠ a → run T sub k r [fD F, lD L, .int a, .int b] S = .ok (.bl true) S
theorem loop4 {k r : Nat} (hR : RightOk T sub k r) (hs : OKS S) {F : List (Int × Int)} (g : GF F) {L : List Int} (gl : GL F.length L) {x : Int} (hx : x ∈ L) (s0 s1 s2 s3 : Option D) : ∀ (M : List Int) (a7 : Option D), (∀ y ∈ M, y ∈ L) →
    ∃ b7, forL ⟨run T sub k, sub⟩ (.nm 7) (fun e S => evCs ⟨run T sub k, sub⟩ (body4 r) e S) (M.map .int) [s0, s1, s2, s3, some (fD F), some (lD L), some (.int x), a7] S = .ok (.nx [s0, s1, s2, s3, some (fD F), some (lD L), some (.int x), b7]) S
  | [], a7, _ => ⟨a7, rfl⟩
  | y :: M, a7, h => by
    have hy := h y List.mem_cons_self
    obtain ⟨b7, ih⟩ := loop4 hR hs g gl hx s0 s1 s2 s3 M (some (.int y)) fun z hz => h z (List.mem_cons_of_mem _ hz)
    refine ⟨b7, ?_⟩
    rw [List.map_cons]
    unfold forL bindT
    have t : evCs ⟨run T sub k, sub⟩ (body4 r) [s0, s1, s2, s3, some (fD F), some (lD L), some (.int x), some (.int y)] S = .ok (.nx [s0, s1, s2, s3, some (fD F), some (lD L), some (.int x), some (.int y)]) S := by
      by_cases hxy : x = y
      · subst hxy
        simp [body4, evCs, evC, evE, evEs, RS.of, R.bind, R.of, getV, cops, eqD, view, shd, DEP, eqv, truth]
      · obtain ⟨a, rfl⟩ : ∃ a : Nat, x = a := ⟨x.toNat, by have := gl.box x hx; omega⟩
        obtain ⟨b, rfl⟩ : ∃ b : Nat, y = b := ⟨y.toNat, by have := gl.box y hy; omega⟩
        have e := hR S F L a b hs g gl hx hy fun z => hxy z.symm
        have hne : cops S .ne (.int a) (.int b) = some true := by
          have e0 : eqv (.int a) (.int b) = false := by
            unfold eqv
            exact beq_eq_false_iff_ne.mpr hxy
          show (some (!eqv (.int a) (.int b)) : Option Bool) = some true
          rw [e0]
          rfl
        simp [body4, evCs, evC, evE, evEs, RS.of, R.bind, R.of, getV, hne, truth, e]
    show (match evCs _ (body4 r) [s0, s1, s2, s3, some (fD F), some (lD L), some (.int x), some (.int y)] S with
      | .ok (.nx e) S2 => _
      | .ok (.ct e) S2 => _
      | .ok (.bk e) S2 => _
      | r => r) = _
    rw [t]
    exact ih
theorem loop3 {k r : Nat} (hR : RightOk T sub k r) (hs : OKS S) {F : List (Int × Int)} (g : GF F) {L : List Int} (gl : GL F.length L) (s0 s1 s2 s3 : Option D) : ∀ (M : List Int) (a6 a7 : Option D), (∀ y ∈ M, y ∈ L) →
    ∃ b6 b7, forL ⟨run T sub k, sub⟩ (.nm 6) (fun e S => evCs ⟨run T sub k, sub⟩ (body3 r) e S) (M.map .int) [s0, s1, s2, s3, some (fD F), some (lD L), a6, a7] S = .ok (.nx [s0, s1, s2, s3, some (fD F), some (lD L), b6, b7]) S
  | [], a6, a7, _ => ⟨a6, a7, rfl⟩
  | x :: M, a6, a7, h => by
    obtain ⟨c7, t⟩ := loop4 hR hs g gl (h x List.mem_cons_self) s0 s1 s2 s3 L a7 fun y hy => hy
    obtain ⟨b6, b7, ih⟩ := loop3 hR hs g gl s0 s1 s2 s3 M (some (.int x)) c7 fun z hz => h z (List.mem_cons_of_mem _ hz)
    refine ⟨b6, b7, ?_⟩
    rw [List.map_cons]
    unfold forL bindT
    have t' : evCs ⟨run T sub k, sub⟩ (body3 r) [s0, s1, s2, s3, some (fD F), some (lD L), some (.int x), a7] S = .ok (.nx [s0, s1, s2, s3, some (fD F), some (lD L), some (.int x), c7]) S := by
      unfold body3
      have hi : evIt ⟨run T sub k, sub⟩ (.of (.var 5)) [s0, s1, s2, s3, some (fD F), some (lD L), some (.int x), a7] S = .ok (L.map .int) S := rfl
      simp only [evCs, evC, hi, t]
    show (match evCs _ (body3 r) [s0, s1, s2, s3, some (fD F), some (lD L), some (.int x), a7] S with
      | .ok (.nx e) S2 => _
      | .ok (.ct e) S2 => _
      | .ok (.bk e) S2 => _
      | r => r) = _
    rw [t']
    exact ih
theorem loop2 {k r f l d j1 j2 p : Nat} (hR : RightOk T sub (k + 3) r) (hf : T[f]? = some ⟨2, 7, false, c__law_field d j1⟩) (hD : T[d]? = some ⟨2, 4, false, c__law_draw⟩) (hI : T[j1]? = some ⟨2, 5, false, c__law_is_free j2⟩) (hB : T[j2]? = some ⟨3, 4, false, c__law_bend⟩) (hL : T[l]? = some ⟨2, 4, false, c__law_lot d⟩) (s0 s1 : Option D) :
    ∀ (M : List Int) (S : Store) (a3 a4 a5 a6 a7 : Option D), (∀ y ∈ M, 0 ≤ y ∧ y < 4) → Pn S p → ∃ (b3 b4 b5 b6 b7 : Option D) (S' : Store), forL ⟨run T sub (k + 3), sub⟩ (.nm 3) (fun e S => evCs ⟨run T sub (k + 3), sub⟩ (body2 f l r) e S) (M.map .int) [s0, s1, some (.ref p), a3, a4, a5, a6, a7] S
      = .ok (.nx [s0, s1, some (.ref p), b3, b4, b5, b6, b7]) S' ∧ Pn S' p ∧ S'.length = S.length
  | [], S, a3, a4, a5, a6, a7, _, hS => ⟨a3, a4, a5, a6, a7, S, rfl, hS, rfl⟩
  | x :: M, S, a3, a4, a5, a6, a7, h, hS => by
    obtain ⟨m, hm, m1, m8⟩ : ∃ m : Int, L2.atI [D.int 8, D.int 8, D.int 5, D.int 3] x = some (.int m) ∧ 1 ≤ m ∧ m ≤ 8 := by
      have := h x List.mem_cons_self
      have : x = 0 ∨ x = 1 ∨ x = 2 ∨ x = 3 := by omega
      rcases this with rfl | rfl | rfl | rfl
      · exact ⟨8, rfl, by decide, by decide⟩
      · exact ⟨8, rfl, by decide, by decide⟩
      · exact ⟨5, rfl, by decide, by decide⟩
      · exact ⟨3, rfl, by decide, by decide⟩
    obtain ⟨F, S1, e1, g, _, P1, l1⟩ := field_ok (sub := sub) (k := k) hf hD hI hB hS m1 m8
    obtain ⟨L, S2, e2, gl, P2, l2⟩ := lot_ok (sub := sub) (k := k + 1) hL hD P1 g.few
    obtain ⟨c6, c7, t⟩ := loop3 hR P2.ok g gl s0 s1 (some (.ref p)) (some (.int x)) L a6 a7 fun y hy => hy
    obtain ⟨b3, b4, b5, b6, b7, S3, ih, P3, l3⟩ := loop2 hR hf hD hI hB hL s0 s1 M S2 (some (.int x)) (some (fD F)) (some (lD L)) c6 c7 (fun z hz => h z (List.mem_cons_of_mem _ hz)) P2
    refine ⟨b3, b4, b5, b6, b7, S3, ?_, P3, by omega⟩
    rw [List.map_cons]
    unfold forL bindT
    have t' : evCs ⟨run T sub (k + 3), sub⟩ (body2 f l r) [s0, s1, some (.ref p), some (.int x), a4, a5, a6, a7] S = .ok (.nx [s0, s1, some (.ref p), some (.int x), some (fD F), some (lD L), c6, c7]) S2 := by
      unfold body2
      have hi : evIt ⟨run T sub (k + 3), sub⟩ (.of (.var 5)) [s0, s1, some (.ref p), some (.int x), some (fD F), some (lD L), a6, a7] S2 = .ok (L.map .int) S2 := rfl
      generalize body3 r = B3 at t ⊢
      simp [evCs, evC, evE, evEs, bindT, RS.of, R.bind, R.of, getV, ixD, seqOf, view, hm, LIM, e1, e2, hi, t]
    show (match evCs _ (body2 f l r) [s0, s1, some (.ref p), some (.int x), a4, a5, a6, a7] S with
      | .ok (.nx e) S2 => _
      | .ok (.ct e) S2 => _
      | .ok (.bk e) S2 => _
      | r => r) = _
    rw [t']
    exact ih
theorem loop1 {k r f l d j1 j2 q : Nat} (hR : RightOk T sub (k + 3) r) (hf : T[f]? = some ⟨2, 7, false, c__law_field d j1⟩) (hD : T[d]? = some ⟨2, 4, false, c__law_draw⟩) (hI : T[j1]? = some ⟨2, 5, false, c__law_is_free j2⟩) (hB : T[j2]? = some ⟨3, 4, false, c__law_bend⟩) (hL : T[l]? = some ⟨2, 4, false, c__law_lot d⟩)
    (hP : T[q]? = some ⟨1, 1, true, c__law_pen⟩) (s0 : Option D) : ∀ (M : List Int) (S : Store) (a1 a2 a3 a4 a5 a6 a7 : Option D), OKS S → ∃ (b1 b2 b3 b4 b5 b6 b7 : Option D) (S' : Store), forL ⟨run T sub (k + 3), sub⟩ (.nm 1) (fun e S => evCs ⟨run T sub (k + 3), sub⟩ (body1 q f l r) e S) (M.map .int) [s0, a1, a2, a3, a4, a5, a6, a7] S
      = .ok (.nx [s0, b1, b2, b3, b4, b5, b6, b7]) S'
  | [], S, a1, a2, a3, a4, a5, a6, a7, _ => ⟨a1, a2, a3, a4, a5, a6, a7, S, rfl⟩
  | x :: M, S, a1, a2, a3, a4, a5, a6, a7, hs => by
    obtain ⟨S1, e1, P1, l1⟩ := pen_ok (sub := sub) (k := k + 2) hP hs x
    obtain ⟨c3, c4, c5, c6, c7, S2, t, P2, l2⟩ := loop2 hR hf hD hI hB hL s0 (some (.int x)) [0, 1, 2, 3] S1 a3 a4 a5 a6 a7 (by decide) P1
    obtain ⟨b1, b2, b3, b4, b5, b6, b7, S3, ih⟩ := loop1 hR hf hD hI hB hL hP s0 M S2 (some (.int x)) (some (.ref S.length)) c3 c4 c5 c6 c7 P2.ok
    refine ⟨b1, b2, b3, b4, b5, b6, b7, S3, ?_⟩
    rw [List.map_cons]
    unfold forL bindT
    have t' : evCs ⟨run T sub (k + 3), sub⟩ (body1 q f l r) [s0, some (.int x), a2, a3, a4, a5, a6, a7] S = .ok (.nx [s0, some (.int x), some (.ref S.length), c3, c4, c5, c6, c7]) S2 := by
      unfold body1
      have hi : evIt ⟨run T sub (k + 3), sub⟩ (.rng (.cons (.cst (.int 4)) .nil)) [s0, some (.int x), some (.ref S.length), a3, a4, a5, a6, a7] S1 = .ok ([0, 1, 2, 3].map .int) S1 := rfl
      generalize body2 f l r = B2 at t ⊢
      simp [evCs, evC, evE, evEs, bindT, RS.of, R.bind, R.of, getV, e1, hi] at t ⊢
      rw [t]
    show (match evCs _ (body1 q f l r) [s0, some (.int x), a2, a3, a4, a5, a6, a7] S with
      | .ok (.nx e) S2 => _
      | .ok (.ct e) S2 => _
      | .ok (.bk e) S2 => _
      | r => r) = _
    rw [t']
    exact ih
theorem cut_map (ns : List Int) (lo hi : Option Int) : ∃ cs : List Int, cut (ns.map D.int) lo hi = cs.map .int ∧ cs.length ≤ ns.length := by
  unfold cut
  refine ⟨(ns.drop (HT.sIx (ns.map D.int).length 0 lo)).take (HT.sIx (ns.map D.int).length (ns.map D.int).length hi - HT.sIx (ns.map D.int).length 0 lo), by rw [List.map_take, List.map_drop], ?_⟩
  rw [List.length_take, List.length_drop]
  omega
theorem law36_ok {n i k r f l d j1 j2 q : Nat} (hT : T[n]? = some ⟨1, 8, false, c_law i q f l r⟩) (hC : T[i]? = some ⟨2, 2, false, c__law_cell_at⟩) (hR : RightOk T sub (k + 3) r) (hf : T[f]? = some ⟨2, 7, false, c__law_field d j1⟩) (hD : T[d]? = some ⟨2, 4, false, c__law_draw⟩) (hI : T[j1]? = some ⟨2, 5, false, c__law_is_free j2⟩)
    (hB : T[j2]? = some ⟨3, 4, false, c__law_bend⟩) (hL : T[l]? = some ⟨2, 4, false, c__law_lot d⟩) (hP : T[q]? = some ⟨1, 1, true, c__law_pen⟩) (ns : List Int) (hn : ns.length ≤ 63) : run T sub (k + 4) n [.scr ns] [] = .ok (.bl true) [] := by
  obtain ⟨c, ec⟩ := cell_at_ok (sub := sub) (k := k + 2) hC (S := []) rfl ns
  obtain ⟨cs, hcs, hlc⟩ := cut_map ns (some 1) (some 3)
  obtain ⟨b1, b2, b3, b4, b5, b6, b7, S', t⟩ := loop1 hR hf hD hI hB hL hP (some (.scr ns)) (c :: cs) [] none none none none none none none rfl
  have hadd : addD [] (.lst [.int c]) (.lst (cs.map .int)) = some (.lst ((c :: cs).map .int)) := by
    show (if [D.int c].length + (cs.map D.int).length ≤ LIM then some (D.lst ([D.int c] ++ cs.map D.int)) else none) = _
    rw [if_pos (by rw [List.length_map]; exact lim_le (m := 64) (by simp; omega) (by decide))]
    rfl
  have hit : evIt ⟨run T sub (k + 3), sub⟩ (.of (.bop .add (.lst (.cons (.call i (.cons (.var 0) (.cons (.cst (.int 0)) .nil))) .nil)) (.sl (.var 0) (.cons (.cst (.int 1)) .nil) (.cons (.cst (.int 3)) .nil)))) [some (.scr ns), none, none, none, none, none, none, none] [] = .ok ((c :: cs).map .int) [] := by
    simp only [evIt, evE, evEs, evPt, R.bind, R.of, getV, List.getElem?_cons_zero, ec, slD, view, hcs, bops, hadd]
    simp [LIM, hadd]
  have e : evCs ⟨run T sub (k + 3), sub⟩ (c_law i q f l r) [some (.scr ns), none, none, none, none, none, none, none] [] = .ok (.rt (.bl true)) S' := by
    have hc : c_law i q f l r = .cons (.fr (.nm 1) (.of (.bop .add (.lst (.cons (.call i (.cons (.var 0) (.cons (.cst (.int 0)) .nil))) .nil)) (.sl (.var 0) (.cons (.cst (.int 1)) .nil) (.cons (.cst (.int 3)) .nil)))) (body1 q f l r)) (.cons (.ret (.cst (.bl true))) .nil) := rfl
    rw [hc]
    generalize body1 q f l r = B1 at t ⊢
    simp only [evCs, evC, hit, t, evE, RS.of]
  unfold run
  rw [hT]
  show callFn _ ⟨1, 8, false, c_law i q f l r⟩ [.scr ns] [] = _
  unfold callFn
  have e' : evCs ⟨run T sub (k + 3), sub⟩ (⟨1, 8, false, c_law i q f l r⟩ : Fn).body (([D.scr ns].map some) ++ List.replicate ((⟨1, 8, false, c_law i q f l r⟩ : Fn).nn - [D.scr ns].length) none) [] = .ok (.rt (.bl true)) S' := e
  refine (if_pos (rfl : [D.scr ns].length = 1)).trans ?_
  simp only [e']
  rfl
end
end Rs
end

section
set_option Elab.async false
set_option linter.all false
set_option maxRecDepth 100000
set_option maxHeartbeats 0
set_option autoImplicit false
namespace L36
open Rs PySem PySem.Spec PyProof.Rows L2
def top (i : Nat) : Stmt := PySem.Challenge.pw_ropestakes_k36_sides_told.main.body.getD i (.Pass ⟨0, 0, 0, 0⟩)
def G0 : List (Str × GK) := [("len", .blt), ("max", .blt), ("all", .blt), ("tuple", .blt), ("int", .blt), ("repr", .blt), ("set", .blt), ("range", .blt), ("enumerate", .blt), ("zip", .blt), ("isinstance", .blt), ("bool", .blt), ("MOST_STAKES", .int 8), ("FARTHEST", .int 40), ("is_whole", .fn 0), ("is_among", .fn 1), ("are_some", .fn 2), ("are_numbers", .fn 3), ("is_place", .fn 4), ("bend", .fn 5), ("threes", .fn 6), ("is_field", .fn 7), ("need_field", .fn 8), ("is_lot", .fn 9), ("need_lot", .fn 10)]
def G1 : List (Str × GK) := [("need_stake", .fn 11), ("side", .fn 12), ("less", .fn 13), ("sides_by", .fn 14), ("sides", .fn 15), ("_law_cell_at", .fn 16), ("_law_pen", .fn 17), ("_law_draw", .fn 18), ("_law_same", .fn 19), ("_law_bend", .fn 20), ("_law_is_free", .fn 21), ("_law_field", .fn 22), ("_law_lot", .fn 23), ("_law_right", .fn 24), ("law", .fn 25), ("NoField", .exc), ("NoLot", .exc), ("NoStake", .exc)]
def G : List (Str × GK) := G0 ++ G1
def b_is_whole : Cs := (.cons (.ret (.and (.isi (.var 0) .int) (.not (.isi (.var 0) .bool)))) .nil)
def r_is_whole : DefR := ⟨⟨("is_whole", none), "is_whole", "is_whole", defArgs (top 8), defBody (top 8), defScope (top 8), [], []⟩, ["thing"], ["thing"], ⟨1, 1, false, b_is_whole⟩⟩
theorem ok_is_whole : DefOk (gOf G) r_is_whole := ⟨⟨rfl, rfl, rfl, by decide +kernel, rfl, by decide +kernel, by decide +kernel⟩, by decide +kernel, rfl, rfl, rfl, rfl, rfl, fun _ _ _ _ _ _ us hl => match us, hl with | [_], _ => rfl⟩
def b_is_among : Cs := (.cons (.ret (.and (.call 0 (.cons (.var 0) .nil)) (.chn .le .le (.var 1) (.var 0) (.var 2)))) .nil)
def r_is_among : DefR := ⟨⟨("is_among", none), "is_among", "is_among", defArgs (top 9), defBody (top 9), defScope (top 9), [], []⟩, ["thing", "low", "high"], ["thing", "low", "high"], ⟨3, 3, false, b_is_among⟩⟩
theorem ok_is_among : DefOk (gOf G) r_is_among := ⟨⟨rfl, rfl, rfl, by decide +kernel, rfl, by decide +kernel, by decide +kernel⟩, by decide +kernel, rfl, rfl, rfl, rfl, rfl, fun _ _ _ _ _ _ us hl => match us, hl with | [_, _, _], _ => rfl⟩
def b_are_some : Cs := (.cons (.ret (.and (.isi (.var 0) .tup) (.chn .le .le (.var 1) (.blt .len (.cons (.var 0) .nil)) (.var 2)))) .nil)
def r_are_some : DefR := ⟨⟨("are_some", none), "are_some", "are_some", defArgs (top 10), defBody (top 10), defScope (top 10), [], []⟩, ["thing", "low", "high"], ["thing", "low", "high"], ⟨3, 3, false, b_are_some⟩⟩
theorem ok_are_some : DefOk (gOf G) r_are_some := ⟨⟨rfl, rfl, rfl, by decide +kernel, rfl, by decide +kernel, by decide +kernel⟩, by decide +kernel, rfl, rfl, rfl, rfl, rfl, fun _ _ _ _ _ _ us hl => match us, hl with | [_, _, _], _ => rfl⟩
def b_are_numbers : Cs := (.cons (.ite (.or (.not (.isi (.var 0) .tup)) (.not (.blt .all (.cons (.lc [2] (.call 1 (.cons (.var 2) (.cons (.cst (.int 0)) (.cons (.bop .sub (.var 1) (.cst (.int 1))) .nil)))) (.nm 2) (.of (.var 0)) .nil .nil) .nil)))) (.cons (.ret (.cst (.bl false))) .nil) .nil) (.cons (.ret (.blt .all (.cons (.lc [2, 3] (.cmp .lt (.var 2) (.var 3)) (.tup (.cons (.nm 2) (.cons (.nm 3) .nil))) (.zip (.var 0) (.sl (.var 0) (.cons (.cst (.int 1)) .nil) .nil)) .nil .nil) .nil))) .nil))
def r_are_numbers : DefR := ⟨⟨("are_numbers", none), "are_numbers", "are_numbers", defArgs (top 11), defBody (top 11), defScope (top 11), [], []⟩, ["thing", "many", "one", "later"], ["thing", "many"], ⟨2, 4, false, b_are_numbers⟩⟩
theorem ok_are_numbers : DefOk (gOf G) r_are_numbers := ⟨⟨rfl, rfl, rfl, by decide +kernel, rfl, by decide +kernel, by decide +kernel⟩, by decide +kernel, rfl, rfl, rfl, rfl, rfl, fun _ _ _ _ _ _ us hl => match us, hl with | [_, _], _ => rfl⟩
def b_is_place : Cs := (.cons (.ret (.and (.call 2 (.cons (.var 0) (.cons (.cst (.int 2)) (.cons (.cst (.int 2)) .nil)))) (.blt .all (.cons (.lc [1] (.call 1 (.cons (.var 1) (.cons (.cst (.int 0)) (.cons (.glo (Str.ofString "FARTHEST") (.int 40)) .nil)))) (.nm 1) (.of (.var 0)) .nil .nil) .nil)))) .nil)
def r_is_place : DefR := ⟨⟨("is_place", none), "is_place", "is_place", defArgs (top 12), defBody (top 12), defScope (top 12), [], []⟩, ["thing", "one"], ["thing"], ⟨1, 2, false, b_is_place⟩⟩
theorem ok_is_place : DefOk (gOf G) r_is_place := ⟨⟨rfl, rfl, rfl, by decide +kernel, rfl, by decide +kernel, by decide +kernel⟩, by decide +kernel, rfl, rfl, rfl, rfl, rfl, fun _ _ _ _ _ _ us hl => match us, hl with | [_], _ => rfl⟩
def b_bend : Cs := (.cons (.ret (.bop .sub (.bop .mul (.bop .sub (.ix (.var 1) (.cst (.int 0))) (.ix (.var 0) (.cst (.int 0)))) (.bop .sub (.ix (.var 2) (.cst (.int 1))) (.ix (.var 0) (.cst (.int 1))))) (.bop .mul (.bop .sub (.ix (.var 1) (.cst (.int 1))) (.ix (.var 0) (.cst (.int 1)))) (.bop .sub (.ix (.var 2) (.cst (.int 0))) (.ix (.var 0) (.cst (.int 0))))))) .nil)
def r_bend : DefR := ⟨⟨("bend", none), "bend", "bend", defArgs (top 13), defBody (top 13), defScope (top 13), [], []⟩, ["one", "other", "third"], ["one", "other", "third"], ⟨3, 3, false, b_bend⟩⟩
theorem ok_bend : DefOk (gOf G) r_bend := ⟨⟨rfl, rfl, rfl, by decide +kernel, rfl, by decide +kernel, by decide +kernel⟩, by decide +kernel, rfl, rfl, rfl, rfl, rfl, fun _ _ _ _ _ _ us hl => match us, hl with | [_, _, _], _ => rfl⟩
def b_threes : Cs := (.cons (.ret (.lc [1, 2, 3] (.tup (.cons (.var 1) (.cons (.var 2) (.cons (.var 3) .nil)))) (.nm 1) (.rng (.cons (.var 0) .nil)) .nil (.cons (.nm 2) (.rng (.cons (.bop .add (.var 1) (.cst (.int 1))) (.cons (.var 0) .nil))) .nil (.cons (.nm 3) (.rng (.cons (.bop .add (.var 2) (.cst (.int 1))) (.cons (.var 0) .nil))) .nil .nil)))) .nil)
def r_threes : DefR := ⟨⟨("threes", none), "threes", "threes", defArgs (top 14), defBody (top 14), defScope (top 14), [], []⟩, ["many", "a", "b", "c"], ["many"], ⟨1, 4, false, b_threes⟩⟩
theorem ok_threes : DefOk (gOf G) r_threes := ⟨⟨rfl, rfl, rfl, by decide +kernel, rfl, by decide +kernel, by decide +kernel⟩, by decide +kernel, rfl, rfl, rfl, rfl, rfl, fun _ _ _ _ _ _ us hl => match us, hl with | [_], _ => rfl⟩
def b_is_field : Cs := (.cons (.ite (.or (.not (.call 2 (.cons (.var 0) (.cons (.cst (.int 1)) (.cons (.glo (Str.ofString "MOST_STAKES") (.int 8)) .nil))))) (.not (.blt .all (.cons (.lc [4] (.call 4 (.cons (.var 4) .nil)) (.nm 4) (.of (.var 0)) .nil .nil) .nil)))) (.cons (.ret (.cst (.bl false))) .nil) .nil) (.cons (.ite (.cmp .lt (.blt .lenset (.cons (.var 0) .nil)) (.blt .len (.cons (.var 0) .nil))) (.cons (.ret (.cst (.bl false))) .nil) .nil) (.cons (.ret (.blt .all (.cons (.lc [1, 2, 3] (.cmp .ne (.call 5 (.cons (.ix (.var 0) (.var 1)) (.cons (.ix (.var 0) (.var 2)) (.cons (.ix (.var 0) (.var 3)) .nil)))) (.cst (.int 0))) (.tup (.cons (.nm 1) (.cons (.nm 2) (.cons (.nm 3) .nil)))) (.of (.call 6 (.cons (.blt .len (.cons (.var 0) .nil)) .nil))) .nil .nil) .nil))) .nil)))
def r_is_field : DefR := ⟨⟨("is_field", none), "is_field", "is_field", defArgs (top 15), defBody (top 15), defScope (top 15), [], []⟩, ["thing", "a", "b", "c", "one"], ["thing"], ⟨1, 5, false, b_is_field⟩⟩
theorem ok_is_field : DefOk (gOf G) r_is_field := ⟨⟨rfl, rfl, rfl, by decide +kernel, rfl, by decide +kernel, by decide +kernel⟩, by decide +kernel, rfl, rfl, rfl, rfl, rfl, fun _ _ _ _ _ _ us hl => match us, hl with | [_], _ => rfl⟩
def b_need_field : Cs := (.cons (.ite (.not (.call 7 (.cons (.var 0) .nil))) (.cons (.ras (Str.ofString "NoField")) .nil) .nil) .nil)
def r_need_field : DefR := ⟨⟨("need_field", none), "need_field", "need_field", defArgs (top 16), defBody (top 16), defScope (top 16), [], []⟩, ["thing"], ["thing"], ⟨1, 1, false, b_need_field⟩⟩
theorem ok_need_field : DefOk (gOf G) r_need_field := ⟨⟨rfl, rfl, rfl, by decide +kernel, rfl, by decide +kernel, by decide +kernel⟩, by decide +kernel, rfl, rfl, rfl, rfl, rfl, fun _ _ _ _ _ _ us hl => match us, hl with | [_], _ => rfl⟩
def b_is_lot : Cs := (.cons (.expr (.call 8 (.cons (.var 0) .nil))) (.cons (.ret (.call 3 (.cons (.var 1) (.cons (.blt .len (.cons (.var 0) .nil)) .nil)))) .nil))
def r_is_lot : DefR := ⟨⟨("is_lot", none), "is_lot", "is_lot", defArgs (top 17), defBody (top 17), defScope (top 17), [], []⟩, ["field", "thing"], ["field", "thing"], ⟨2, 2, false, b_is_lot⟩⟩
theorem ok_is_lot : DefOk (gOf G) r_is_lot := ⟨⟨rfl, rfl, rfl, by decide +kernel, rfl, by decide +kernel, by decide +kernel⟩, by decide +kernel, rfl, rfl, rfl, rfl, rfl, fun _ _ _ _ _ _ us hl => match us, hl with | [_, _], _ => rfl⟩
def b_need_lot : Cs := (.cons (.ite (.not (.call 9 (.cons (.var 0) (.cons (.var 1) .nil)))) (.cons (.ras (Str.ofString "NoLot")) .nil) .nil) .nil)
def r_need_lot : DefR := ⟨⟨("need_lot", none), "need_lot", "need_lot", defArgs (top 18), defBody (top 18), defScope (top 18), [], []⟩, ["field", "thing"], ["field", "thing"], ⟨2, 2, false, b_need_lot⟩⟩
theorem ok_need_lot : DefOk (gOf G) r_need_lot := ⟨⟨rfl, rfl, rfl, by decide +kernel, rfl, by decide +kernel, by decide +kernel⟩, by decide +kernel, rfl, rfl, rfl, rfl, rfl, fun _ _ _ _ _ _ us hl => match us, hl with | [_, _], _ => rfl⟩
def b_need_stake : Cs := (.cons (.ite (.or (.not (.call 0 (.cons (.var 1) .nil))) (.cmp .nin (.var 1) (.var 0))) (.cons (.ras (Str.ofString "NoStake")) .nil) .nil) .nil)
def r_need_stake : DefR := ⟨⟨("need_stake", none), "need_stake", "need_stake", defArgs (top 19), defBody (top 19), defScope (top 19), [], []⟩, ["some", "thing"], ["some", "thing"], ⟨2, 2, false, b_need_stake⟩⟩
theorem ok_need_stake : DefOk (gOf G) r_need_stake := ⟨⟨rfl, rfl, rfl, by decide +kernel, rfl, by decide +kernel, by decide +kernel⟩, by decide +kernel, rfl, rfl, rfl, rfl, rfl, fun _ _ _ _ _ _ us hl => match us, hl with | [_, _], _ => rfl⟩
def b_side : Cs := (.cons (.asg (.nm 4) (.call 5 (.cons (.ix (.var 0) (.var 1)) (.cons (.ix (.var 0) (.var 2)) (.cons (.ix (.var 0) (.var 3)) .nil))))) (.cons (.ret (.bop .sub (.blt .int (.cons (.cmp .gt (.var 4) (.cst (.int 0))) .nil)) (.blt .int (.cons (.cmp .lt (.var 4) (.cst (.int 0))) .nil)))) .nil))
def r_side : DefR := ⟨⟨("side", none), "side", "side", defArgs (top 20), defBody (top 20), defScope (top 20), [], []⟩, ["field", "a", "b", "c", "found"], ["field", "a", "b", "c"], ⟨4, 5, false, b_side⟩⟩
theorem ok_side : DefOk (gOf G) r_side := ⟨⟨rfl, rfl, rfl, by decide +kernel, rfl, by decide +kernel, by decide +kernel⟩, by decide +kernel, rfl, rfl, rfl, rfl, rfl, fun _ _ _ _ _ _ us hl => match us, hl with | [_, _, _, _], _ => rfl⟩
def b_less : Cs := (.cons (.ret (.blt .tuple (.cons (.lc [2] (.var 2) (.nm 2) (.of (.var 0)) (.cons (.cmp .ne (.var 2) (.var 1)) .nil) .nil) .nil))) .nil)
def r_less : DefR := ⟨⟨("less", none), "less", "less", defArgs (top 22), defBody (top 22), defScope (top 22), [], []⟩, ["lot", "stake", "one"], ["lot", "stake"], ⟨2, 3, false, b_less⟩⟩
theorem ok_less : DefOk (gOf G) r_less := ⟨⟨rfl, rfl, rfl, by decide +kernel, rfl, by decide +kernel, by decide +kernel⟩, by decide +kernel, rfl, rfl, rfl, rfl, rfl, fun _ _ _ _ _ _ us hl => match us, hl with | [_, _], _ => rfl⟩
def b_sides_by : Cs := (.cons (.asg (.nm 4) (.lc [5] (.call 12 (.cons (.var 0) (.cons (.var 2) (.cons (.var 3) (.cons (.var 5) .nil))))) (.nm 5) (.of (.var 1)) .nil .nil)) (.cons (.ret (.tup (.cons (.mth .count (.var 4) (.cons (.cst (.int 1)) .nil)) (.cons (.mth .count (.var 4) (.cons (.neg (.cst (.int 1))) .nil)) .nil)))) .nil))
def r_sides_by : DefR := ⟨⟨("sides_by", none), "sides_by", "sides_by", defArgs (top 24), defBody (top 24), defScope (top 24), [], []⟩, ["field", "lot", "one", "other", "found", "stake"], ["field", "lot", "one", "other"], ⟨4, 6, false, b_sides_by⟩⟩
theorem ok_sides_by : DefOk (gOf G) r_sides_by := ⟨⟨rfl, rfl, rfl, by decide +kernel, rfl, by decide +kernel, by decide +kernel⟩, by decide +kernel, rfl, rfl, rfl, rfl, rfl, fun _ _ _ _ _ _ us hl => match us, hl with | [_, _, _, _], _ => rfl⟩
def b_sides : Cs := (.cons (.expr (.call 10 (.cons (.var 0) (.cons (.var 1) .nil)))) (.cons (.expr (.call 11 (.cons (.var 1) (.cons (.var 2) .nil)))) (.cons (.expr (.call 11 (.cons (.call 13 (.cons (.var 1) (.cons (.var 2) .nil))) (.cons (.var 3) .nil)))) (.cons (.ret (.call 14 (.cons (.var 0) (.cons (.var 1) (.cons (.var 2) (.cons (.var 3) .nil)))))) .nil))))
def r_sides : DefR := ⟨⟨("sides", none), "sides", "sides", defArgs (top 25), defBody (top 25), defScope (top 25), [], []⟩, ["field", "lot", "one", "other"], ["field", "lot", "one", "other"], ⟨4, 4, false, b_sides⟩⟩
theorem ok_sides : DefOk (gOf G) r_sides := ⟨⟨rfl, rfl, rfl, by decide +kernel, rfl, by decide +kernel, by decide +kernel⟩, by decide +kernel, rfl, rfl, rfl, rfl, rfl, fun _ _ _ _ _ _ us hl => match us, hl with | [_, _, _, _], _ => rfl⟩
def b__law_cell_at : Cs := (.cons (.ite (.cmp .lt (.var 1) (.blt .len (.cons (.var 0) .nil))) (.cons (.ret (.ix (.var 0) (.var 1))) .nil) .nil) (.cons (.ret (.cst (.int 0))) .nil))
def r__law_cell_at : DefR := ⟨⟨("_law_cell_at", none), "_law_cell_at", "_law_cell_at", defArgs (top 27), defBody (top 27), defScope (top 27), [], []⟩, ["_law_script", "_law_k"], ["_law_script", "_law_k"], ⟨2, 2, false, b__law_cell_at⟩⟩
theorem ok__law_cell_at : DefOk (gOf G) r__law_cell_at := ⟨⟨rfl, rfl, rfl, by decide +kernel, rfl, by decide +kernel, by decide +kernel⟩, by decide +kernel, rfl, rfl, rfl, rfl, rfl, fun _ _ _ _ _ _ us hl => match us, hl with | [_, _], _ => rfl⟩
def b__law_pen : Cs := (.cons (.ret (.mut (.lst (.cons (.blt .max (.cons (.cst (.int 0)) (.cons (.bop .sub (.var 0) (.bop .pow (.cst (.int 10)) (.cst (.int 18)))) .nil))) (.cons (.bop .add (.bop .mod (.var 0) (.cst (.int 2147483629))) (.cst (.int 1))) (.cons (.cst (.int 0)) .nil)))))) .nil)
def r__law_pen : DefR := ⟨⟨("_law_pen", none), "_law_pen", "_law_pen", defArgs (top 28), defBody (top 28), defScope (top 28), [], []⟩, ["_law_cell"], ["_law_cell"], ⟨1, 1, true, b__law_pen⟩⟩
theorem ok__law_pen : DefOk (gOf G) r__law_pen := ⟨⟨rfl, rfl, rfl, by decide +kernel, rfl, by decide +kernel, by decide +kernel⟩, by decide +kernel, rfl, rfl, rfl, rfl, rfl, fun _ _ _ _ _ _ us hl => match us, hl with | [_], _ => rfl⟩
def b__law_draw : Cs := (.cons (.ite (.cmp .gt (.ix (.var 0) (.cst (.int 0))) (.cst (.int 0))) (.cons (.asg (.nm 3) (.bop .mod (.ix (.var 0) (.cst (.int 0))) (.var 1))) (.cons (.asg (.sub (.var 0) (.cst (.int 0))) (.bop .fdiv (.ix (.var 0) (.cst (.int 0))) (.var 1))) (.cons (.ret (.var 3)) .nil))) .nil) (.cons (.asg (.sub (.var 0) (.cst (.int 2))) (.bop .add (.ix (.var 0) (.cst (.int 2))) (.cst (.int 1)))) (.cons (.asg (.sub (.var 0) (.cst (.int 1))) (.bop .mod (.bop .add (.bop .add (.bop .mul (.ix (.var 0) (.cst (.int 1))) (.cst (.int 48271))) (.bop .mul (.cst (.int 1009)) (.ix (.var 0) (.cst (.int 2))))) (.cst (.int 7))) (.cst (.int 2147483647)))) (.cons (.asg (.nm 2) (.bop .mod (.bop .add (.bop .add (.bop .mul (.ix (.var 0) (.cst (.int 1))) (.ix (.var 0) (.cst (.int 1)))) (.bop .mul (.cst (.int 69621)) (.ix (.var 0) (.cst (.int 1))))) (.cst (.int 11))) (.cst (.int 2147483629)))) (.cons (.asg (.nm 2) (.bop .mod (.bop .add (.bop .mul (.var 2) (.var 2)) (.bop .mul (.cst (.int 40014)) (.var 2))) (.cst (.int 2147483587)))) (.cons (.ret (.bop .mod (.bop .fdiv (.var 2) (.cst (.int 16))) (.var 1))) .nil))))))
def r__law_draw : DefR := ⟨⟨("_law_draw", none), "_law_draw", "_law_draw", defArgs (top 29), defBody (top 29), defScope (top 29), [], []⟩, ["_law_pen_here", "_law_many", "_law_mixed", "_law_found"], ["_law_pen_here", "_law_many"], ⟨2, 4, false, b__law_draw⟩⟩
theorem ok__law_draw : DefOk (gOf G) r__law_draw := ⟨⟨rfl, rfl, rfl, by decide +kernel, rfl, by decide +kernel, by decide +kernel⟩, by decide +kernel, rfl, rfl, rfl, rfl, rfl, fun _ _ _ _ _ _ us hl => match us, hl with | [_, _], _ => rfl⟩
def b__law_same : Cs := (.cons (.ret (.cmp .eq (.blt .repr (.cons (.var 0) .nil)) (.blt .repr (.cons (.var 1) .nil)))) .nil)
def r__law_same : DefR := ⟨⟨("_law_same", none), "_law_same", "_law_same", defArgs (top 30), defBody (top 30), defScope (top 30), [], []⟩, ["_law_found", "_law_due"], ["_law_found", "_law_due"], ⟨2, 2, false, b__law_same⟩⟩
theorem ok__law_same : DefOk (gOf G) r__law_same := ⟨⟨rfl, rfl, rfl, by decide +kernel, rfl, by decide +kernel, by decide +kernel⟩, by decide +kernel, rfl, rfl, rfl, rfl, rfl, fun _ _ _ _ _ _ us hl => match us, hl with | [_, _], _ => rfl⟩
def b__law_bend : Cs := (.cons (.asg (.nm 3) (.bop .mul (.bop .sub (.ix (.var 1) (.cst (.int 0))) (.ix (.var 0) (.cst (.int 0)))) (.bop .sub (.ix (.var 2) (.cst (.int 1))) (.ix (.var 0) (.cst (.int 1)))))) (.cons (.ret (.bop .sub (.var 3) (.bop .mul (.bop .sub (.ix (.var 1) (.cst (.int 1))) (.ix (.var 0) (.cst (.int 1)))) (.bop .sub (.ix (.var 2) (.cst (.int 0))) (.ix (.var 0) (.cst (.int 0))))))) .nil))
def r__law_bend : DefR := ⟨⟨("_law_bend", none), "_law_bend", "_law_bend", defArgs (top 31), defBody (top 31), defScope (top 31), [], []⟩, ["_law_one", "_law_other", "_law_third", "_law_found"], ["_law_one", "_law_other", "_law_third"], ⟨3, 4, false, b__law_bend⟩⟩
theorem ok__law_bend : DefOk (gOf G) r__law_bend := ⟨⟨rfl, rfl, rfl, by decide +kernel, rfl, by decide +kernel, by decide +kernel⟩, by decide +kernel, rfl, rfl, rfl, rfl, rfl, fun _ _ _ _ _ _ us hl => match us, hl with | [_, _, _], _ => rfl⟩
def b__law_is_free : Cs := (.cons (.ite (.cmp .isin (.var 1) (.var 0)) (.cons (.ret (.cst (.bl false))) .nil) .nil) (.cons (.fr (.tup (.cons (.nm 2) (.cons (.nm 3) .nil))) (.enu (.var 0)) (.cons (.ite (.cmp .ne (.lc [4] (.cst (.int 1)) (.nm 4) (.of (.sl (.var 0) (.cons (.bop .add (.var 2) (.cst (.int 1))) .nil) .nil)) (.cons (.cmp .eq (.call 20 (.cons (.var 3) (.cons (.var 4) (.cons (.var 1) .nil)))) (.cst (.int 0))) .nil) .nil) (.lst .nil)) (.cons (.ret (.cst (.bl false))) .nil) .nil) .nil)) (.cons (.ret (.cst (.bl true))) .nil)))
def r__law_is_free : DefR := ⟨⟨("_law_is_free", none), "_law_is_free", "_law_is_free", defArgs (top 32), defBody (top 32), defScope (top 32), [], []⟩, ["_law_places", "_law_place", "_law_at", "_law_one", "_law_other"], ["_law_places", "_law_place"], ⟨2, 5, false, b__law_is_free⟩⟩
theorem ok__law_is_free : DefOk (gOf G) r__law_is_free := ⟨⟨rfl, rfl, rfl, by decide +kernel, rfl, by decide +kernel, by decide +kernel⟩, by decide +kernel, rfl, rfl, rfl, rfl, rfl, fun _ _ _ _ _ _ us hl => match us, hl with | [_, _], _ => rfl⟩
def b__law_field : Cs := (.cons (.par [3, 4] (.cons (.ix (.lst (.cons (.cst (.int 3)) (.cons (.cst (.int 6)) (.cons (.cst (.int 12)) (.cons (.cst (.int 40)) .nil))))) (.call 18 (.cons (.var 0) (.cons (.cst (.int 4)) .nil)))) (.cons (.bop .add (.cst (.int 1)) (.call 18 (.cons (.var 0) (.cons (.var 1) .nil)))) .nil))) (.cons (.par [4, 5] (.cons (.ix (.lst (.cons (.var 4) (.cons (.var 1) .nil))) (.call 18 (.cons (.var 0) (.cons (.cst (.int 2)) .nil)))) (.cons (.tup .nil) .nil))) (.cons (.fr (.nm 2) (.rng (.cons (.bop .mul (.cst (.int 3)) (.var 1)) .nil)) (.cons (.asg (.nm 6) (.tup (.cons (.call 18 (.cons (.var 0) (.cons (.bop .add (.var 3) (.cst (.int 1))) .nil))) (.cons (.call 18 (.cons (.var 0) (.cons (.bop .add (.var 3) (.cst (.int 1))) .nil))) .nil)))) (.cons (.ite (.cmp .eq (.call 18 (.cons (.var 0) (.cons (.cst (.int 5)) .nil))) (.cst (.int 0))) (.cons (.asg (.nm 6) (.tup (.cons (.ix (.var 6) (.cst (.int 0))) (.cons (.ix (.lst (.cons (.cst (.int 0)) (.cons (.var 3) .nil))) (.call 18 (.cons (.var 0) (.cons (.cst (.int 2)) .nil)))) .nil)))) .nil) .nil) (.cons (.ite (.and (.cmp .lt (.blt .len (.cons (.var 5) .nil)) (.var 4)) (.call 21 (.cons (.var 5) (.cons (.var 6) .nil)))) (.cons (.asg (.nm 5) (.bop .add (.var 5) (.tup (.cons (.var 6) .nil)))) .nil) .nil) .nil)))) (.cons (.ret (.var 5)) .nil))))
def r__law_field : DefR := ⟨⟨("_law_field", none), "_law_field", "_law_field", defArgs (top 33), defBody (top 33), defScope (top 33), [], []⟩, ["_law_pen_here", "_law_most", "_law_lap", "_law_wide", "_law_many", "_law_found", "_law_place"], ["_law_pen_here", "_law_most"], ⟨2, 7, false, b__law_field⟩⟩
theorem ok__law_field : DefOk (gOf G) r__law_field := ⟨⟨rfl, rfl, rfl, by decide +kernel, rfl, by decide +kernel, by decide +kernel⟩, by decide +kernel, rfl, rfl, rfl, rfl, rfl, fun _ _ _ _ _ _ us hl => match us, hl with | [_, _], _ => rfl⟩
def b__law_lot : Cs := (.cons (.asg (.nm 2) (.rng false (.cons (.blt .len (.cons (.var 1) .nil)) .nil))) (.cons (.ret (.ix (.lst (.cons (.var 2) (.cons (.var 2) (.cons (.blt .tuple (.cons (.lc [3] (.var 3) (.nm 3) (.of (.var 2)) (.cons (.cmp .gt (.call 18 (.cons (.var 0) (.cons (.cst (.int 4)) .nil))) (.cst (.int 0))) .nil) .nil) .nil)) .nil)))) (.call 18 (.cons (.var 0) (.cons (.cst (.int 3)) .nil))))) .nil))
def r__law_lot : DefR := ⟨⟨("_law_lot", none), "_law_lot", "_law_lot", defArgs (top 34), defBody (top 34), defScope (top 34), [], []⟩, ["_law_pen_here", "_law_field_here", "_law_every", "_law_one"], ["_law_pen_here", "_law_field_here"], ⟨2, 4, false, b__law_lot⟩⟩
theorem ok__law_lot : DefOk (gOf G) r__law_lot := ⟨⟨rfl, rfl, rfl, by decide +kernel, rfl, by decide +kernel, by decide +kernel⟩, by decide +kernel, rfl, rfl, rfl, rfl, rfl, fun _ _ _ _ _ _ us hl => match us, hl with | [_, _], _ => rfl⟩
def b__law_right : Cs := (.cons (.asg (.nm 4) (.lc [8] (.call 20 (.cons (.ix (.var 0) (.var 2)) (.cons (.ix (.var 0) (.var 3)) (.cons (.ix (.var 0) (.var 8)) .nil)))) (.nm 8) (.of (.var 1)) (.cons (.cmp .nin (.var 8) (.tup (.cons (.var 2) (.cons (.var 3) .nil)))) .nil) .nil)) (.cons (.par [6, 7] (.cons (.tup (.cons (.blt .len (.cons (.lc [10] (.cst (.int 1)) (.nm 10) (.of (.var 4)) (.cons (.cmp .gt (.var 10) (.cst (.int 0))) .nil) .nil) .nil)) (.cons (.blt .len (.cons (.lc [10] (.cst (.int 1)) (.nm 10) (.of (.var 4)) (.cons (.cmp .lt (.var 10) (.cst (.int 0))) .nil) .nil) .nil)) .nil))) (.cons (.blt .repr (.cons (.tup (.cons (.var 0) (.cons (.var 1) .nil))) .nil)) .nil))) (.cons (.asg (.nm 5) (.lc [9] (.call 15 (.cons (.var 0) (.cons (.var 1) (.cons (.var 2) (.cons (.var 3) .nil))))) (.nm 9) (.rng (.cons (.cst (.int 2)) .nil)) .nil .nil)) (.cons (.ret (.and (.call 19 (.cons (.var 5) (.cons (.lst (.cons (.var 6) (.cons (.var 6) .nil))) .nil))) (.cmp .eq (.blt .repr (.cons (.tup (.cons (.var 0) (.cons (.var 1) .nil))) .nil)) (.var 7)))) .nil))))
def r__law_right : DefR := ⟨⟨("_law_right", none), "_law_right", "_law_right", defArgs (top 35), defBody (top 35), defScope (top 35), [], []⟩, ["_law_field_here", "_law_lot_here", "_law_begin", "_law_end", "_law_turns", "_law_told", "_law_due", "_law_kept", "_law_stake", "_law_lap", "_law_found"], ["_law_field_here", "_law_lot_here", "_law_begin", "_law_end"], ⟨4, 11, false, b__law_right⟩⟩
theorem ok__law_right : DefOk (gOf G) r__law_right := ⟨⟨rfl, rfl, rfl, by decide +kernel, rfl, by decide +kernel, by decide +kernel⟩, by decide +kernel, rfl, rfl, rfl, rfl, rfl, fun _ _ _ _ _ _ us hl => match us, hl with | [_, _, _, _], _ => rfl⟩
def b_law : Cs := (.cons (.fr (.nm 1) (.of (.bop .add (.lst (.cons (.call 16 (.cons (.var 0) (.cons (.cst (.int 0)) .nil))) .nil)) (.sl (.var 0) (.cons (.cst (.int 1)) .nil) (.cons (.cst (.int 3)) .nil)))) (.cons (.asg (.nm 2) (.call 17 (.cons (.var 1) .nil))) (.cons (.fr (.nm 3) (.rng (.cons (.cst (.int 4)) .nil)) (.cons (.asg (.nm 4) (.call 22 (.cons (.var 2) (.cons (.ix (.lst (.cons (.cst (.int 8)) (.cons (.cst (.int 8)) (.cons (.cst (.int 5)) (.cons (.cst (.int 3)) .nil))))) (.var 3)) .nil)))) (.cons (.asg (.nm 5) (.call 23 (.cons (.var 2) (.cons (.var 4) .nil)))) (.cons (.fr (.nm 6) (.of (.var 5)) (.cons (.fr (.nm 7) (.of (.var 5)) (.cons (.ite (.and (.cmp .ne (.var 6) (.var 7)) (.not (.call 24 (.cons (.var 4) (.cons (.var 5) (.cons (.var 6) (.cons (.var 7) .nil))))))) (.cons (.ret (.cst (.bl false))) .nil) .nil) .nil)) .nil)) .nil)))) .nil))) (.cons (.ret (.cst (.bl true))) .nil))
def r_law : DefR := ⟨⟨("law", none), "law", "law", defArgs (top 36), defBody (top 36), defScope (top 36), [], []⟩, ["_law_script", "_law_cell", "_law_pen_here", "_law_lap", "_law_field_here", "_law_lot_here", "_law_begin", "_law_end"], ["_law_script"], ⟨1, 8, false, b_law⟩⟩
theorem ok_law : DefOk (gOf G) r_law := ⟨⟨rfl, rfl, rfl, by decide +kernel, rfl, by decide +kernel, by decide +kernel⟩, by decide +kernel, rfl, rfl, rfl, rfl, rfl, fun _ _ _ _ _ _ us hl => match us, hl with | [_], _ => rfl⟩
def rs0 : List DefR := [r_is_whole, r_is_among, r_are_some, r_are_numbers, r_is_place, r_bend, r_threes, r_is_field, r_need_field, r_is_lot, r_need_lot, r_need_stake, r_side, r_less, r_sides_by, r_sides, r__law_cell_at, r__law_pen, r__law_draw, r__law_same, r__law_bend, r__law_is_free, r__law_field, r__law_lot, r__law_right]
def rs1 : List DefR := [r_law]
def rs : List DefR := rs0 ++ rs1
theorem ok_all0 : ∀ r ∈ rs0, DefOk (gOf G) r := by
  intro r h
  simp only [rs0, List.mem_cons, List.not_mem_nil, or_false] at h
  rcases h with rfl | rfl | rfl | rfl | rfl | rfl | rfl | rfl | rfl | rfl | rfl | rfl | rfl | rfl | rfl | rfl | rfl | rfl | rfl | rfl | rfl | rfl | rfl | rfl | rfl
  · exact ok_is_whole
  · exact ok_is_among
  · exact ok_are_some
  · exact ok_are_numbers
  · exact ok_is_place
  · exact ok_bend
  · exact ok_threes
  · exact ok_is_field
  · exact ok_need_field
  · exact ok_is_lot
  · exact ok_need_lot
  · exact ok_need_stake
  · exact ok_side
  · exact ok_less
  · exact ok_sides_by
  · exact ok_sides
  · exact ok__law_cell_at
  · exact ok__law_pen
  · exact ok__law_draw
  · exact ok__law_same
  · exact ok__law_bend
  · exact ok__law_is_free
  · exact ok__law_field
  · exact ok__law_lot
  · exact ok__law_right
theorem ok_all1 : ∀ r ∈ rs1, DefOk (gOf G) r := by
  intro r h
  simp only [rs1, List.mem_cons, List.not_mem_nil, or_false] at h
  subst h
  · exact ok_law
theorem ok_all : ∀ r ∈ rs, DefOk (gOf G) r := by
  intro r h
  simp only [rs, List.mem_append] at h
  rcases h with h | h
  · exact ok_all0 r h
  · exact ok_all1 r h
def loose0 : List Str := ["__name__", "StakeError", "NoField", "NoLot", "NoStake", "MOST_STAKES", "FARTHEST", "is_whole", "is_among", "are_some", "are_numbers", "is_place", "bend", "threes", "is_field", "need_field", "is_lot", "need_lot", "need_stake", "side", "less", "sides_by", "sides", "_law_cell_at", "_law_pen", "_law_draw", "_law_same", "_law_bend", "_law_is_free", "_law_field"]
def loose1 : List Str := ["_law_lot", "_law_right"]
abbrev loose : List Str := loose0 ++ loose1
abbrev R : PySem.W.OpenRow := PySem.W.OpenLaw.row PySem.Challenge.rw_ropestakes_k36_sides_told
abbrev hk : PySem.W.Hook := hookR 3 (fasOf G) (rs.map (·.d))
def ob (s : PySem.W.SharedT) : He.AlD := obsRG 3 (fasOf G) (rs.map (·.d)) (HandSHeadRun.getT s)
theorem ob_eq (s : PySem.W.SharedT) : ob s = hk.obs s.abs := obsRG_eq (HandSHeadRun.getT_eq s)
theorem run_top (w : World) : HandSHeadRun.RunEq R (PySem.W.view R.prog [36]) hk ob 2000 loose w := by
  intro os
  kernel_rfl
end L36
namespace L36
open Rs PySem
def fld : Fld (rs.map (·.fn)) := ⟨0, 1, 2, 3, 4, 5, 6, 7, 8, rfl, rfl, rfl, rfl, rfl, rfl, rfl⟩
theorem says : Says (rs.map (·.fn)) (fun _ _ => none) 60 25 63 := by
  intro ns hn _
  refine ⟨[], law36_ok (k := 56) (i := 16) (q := 17) (f := 22) (l := 23) (r := 24) (d := 18) (j1 := 21) (j2 := 20) rfl rfl (fun S F L a b hs g gl ma mb hab => ?_) rfl rfl rfl rfl rfl rfl ns hn⟩
  exact right_ok (k := 50) fld (jb := 20) (js := 15) (jm := 19) (i0 := 8) (i1 := 3) (i2 := 9) (i3 := 10) (j1 := 11) (j2 := 13) (j3 := 14) (j4 := 12) rfl rfl rfl rfl rfl rfl rfl rfl rfl rfl rfl rfl hs g gl ma mb hab
end L36
open PySem PySem.W PySem.Calls PyProof.Rows
theorem PySem.Challenge.cw_ropestakes_k36_sides_told_holds : PySem.Challenge.rw_ropestakes_k36_sides_told.Holds := by
  w_on; o_law
  refine HandSHeadRun.head_any (r := OpenLaw.row PySem.Challenge.rw_ropestakes_k36_sides_told) (q := view (OpenLaw.row PySem.Challenge.rw_ropestakes_k36_sides_told).prog [36]) (H := L36.hk) (ob := L36.ob) (M := 2000) (loose := L36.loose) (d := HandSHeadRun.topDef (OpenLaw.row PySem.Challenge.rw_ropestakes_k36_sides_told).prog 36) (kwd := []) L36.ob_eq
    (by kernel_rfl) (fun s => by kernel_rfl) L36.run_top (by kernel_rfl) (by kernel_rfl) (by kernel_rfl) (by rfl) (by first | assumption | decide +kernel) (by decide +kernel) ⟨rfl, rfl, rfl, rfl, rfl, by decide +kernel⟩ ?hw ?hc
  case hw => w_witness2
  case hc =>
    refine Rs.walk_G (l := PySem.Challenge.rw_ropestakes_k36_sides_told) (n := 63) (k := 60) (x := "_law_script") rfl (by decide) (by kernel_rfl) ⟨rfl, by decide, by decide⟩ ?F
    intro w mg fa h Y hG hmg0
    have hmg : mg (L36.r_law.d.name) = some (.ref fa) := by
      have e : (HandSHeadRun.topDef (OpenLaw.row PySem.Challenge.rw_ropestakes_k36_sides_told).prog 36).name = ("law" : PySem.Str) := by kernel_rfl
      rw [e] at hmg0
      exact hmg0
    exact Rs.table_F (r := L36.r_law) L36.ok_all (by decide +kernel) (by rfl) (by rfl) (by rfl) L36.says w mg fa h Y hG hmg
end
