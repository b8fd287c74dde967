import PyProof.Rows.All
import Wide.All
import OpenK.AllK
import Wide.FinOn
import HandS.ForMost
import HandS.HeadHook1
import HandS.TupAny
import HandS.Deep
import HandS.IsInst
import HandS.TupLe
import HandS.Flow
import HandS.TupSets
import KE.DataMinMax
import HandS.Strs
import HandS.ExcOwn
import HandS.WordsExc
import HandS.Defaults
import HandS.Head0
import HandS.Head1
import HandS.Head2
import HandS.HeadEnd
import HandS.EndBits
import HandS.HeadHook2
import HandS.Style
import HandS.Conv
import HandS.Iter
import HandS.Zip
import HandS.NoneIn
import KE.GoesMore
import PyProof.EnumMake
import KE.KItemsList
import KE.KDictZip
import PySem.Challenge.RW_ropestakes_k03_turns_and_fields_alike
section
set_option Elab.async false
set_option linter.all false
set_option maxRecDepth 100000
/-! RsEval: data, a store of what may change, and an evaluator of the part of Python that is used here. Own work. -/
namespace Rs
open PySem

/-- data; ref: a cell of the store; exc: an exception of an own class; scr: the script -/
inductive D where
  | non
  | bl (b : Bool)
  | int (i : Int)
  | str (x : Str)
  | tup (xs : List D)
  | lst (xs : List D)
  | dct (kvs : List (D × D))
  | ref (k : Nat)
  | exc (c : Str)
  | scr (ns : List Int)

/-- what may change -/
inductive Cell where
  | lst (xs : List D)
  | dct (kvs : List (D × D))
  | ins (c : Str) (fs : List (Str × D))
  | dead
abbrev Store := List Cell

inductive R (α : Type) where
  | ok (a : α) (S : Store)
  | exc (c : Str) (S : Store)
  | bad
def R.bind {α β : Type} (r : R α) (f : α → Store → R β) : R β :=
  match r with
  | .ok a S => f a S
  | .exc c S => .exc c S
  | .bad => .bad
def R.of {α : Type} (o : Option α) (S : Store) : R α :=
  match o with
  | some a => .ok a S
  | none => .bad

/-! ### == of data -/
mutual
def eqv : D → D → Bool
  | .non, .non => true
  | .bl a, .bl b => a == b
  | .bl a, .int j => (if a then 1 else 0) == j
  | .int i, .bl b => i == (if b then 1 else 0)
  | .int i, .int j => i == j
  | .str x, .str y => x == y
  | .lst xs, .lst ys => eqvs xs ys
  | .tup xs, .tup ys => eqvs xs ys
  | _, _ => false
def eqvs : List D → List D → Bool
  | [], [] => true
  | x :: xs, y :: ys => eqv x y && eqvs xs ys
  | _, _ => false
end
/-- data without dicts, refs, exceptions, not too deep -/
def shd : Nat → D → Bool
  | _, .non => true
  | _, .bl _ => true
  | _, .int _ => true
  | _, .str x => PyData.strOk x
  | n + 1, .tup xs => xs.all (shd n)
  | n + 1, .lst xs => xs.all (shd n)
  | _, _ => false
/-- a list that may change, read at the top -/
def view (S : Store) : D → D
  | .ref k => match S[k]? with
    | some (.lst xs) => .lst xs
    | _ => .ref k
  | d => d
def DEP : Nat := 60
def eqD (S : Store) (a b : D) : Option Bool :=
  match a, b with
  | .str x, .str y => some (decide (x = y))
  | a, b => match shd DEP (view S a) && shd DEP (view S b) with
    | true => some (eqv (view S a) (view S b))
    | false => none

def seqOf (S : Store) (d : D) : Option (List D) :=
  match view S d with
  | .tup xs => some xs
  | .lst xs => some xs
  | .scr ns => some (ns.map .int)
  | _ => none
def LIM : Nat := 100000

def truth (S : Store) : D → Option Bool
  | .non => some false
  | .bl b => some b
  | .int i => some (i != 0)
  | .str x => if x.length ≤ LIM then some ((x.length : Int) != 0) else none
  | .tup xs => some (!xs.isEmpty)
  | .lst xs => some (!xs.isEmpty)
  | .ref k => match S[k]? with
    | some (.lst xs) => some (!xs.isEmpty)
    | _ => none
  | _ => none

/-! ### numbers -/
def BIG : Int := 18446744073709551616
def mulOk (i j : Int) : Bool := (decide (-BIG < i) && decide (i < BIG)) || (decide (-BIG < j) && decide (j < BIG))
inductive Bop where | add | sub | mul | fdiv | mod | pow
def intsD : List D → Option (List Int)
  | [] => some []
  | .int i :: r => (intsD r).map (i :: ·)
  | _ :: _ => none
def addD (S : Store) (d e : D) : Option D :=
  match d, e with
  | .int i, .int j => some (.int (i + j))
  | .str x, .str y => if x.length + y.length ≤ LIM then some (.str (x ++ y)) else none
  | .tup xs, .tup ys => if xs.length + ys.length ≤ LIM then some (.tup (xs ++ ys)) else none
  | a, b => match view S a, view S b with
    | .lst xs, .lst ys => if xs.length + ys.length ≤ LIM then some (.lst (xs ++ ys)) else none
    | _, _ => none
def subD (d e : D) : Option D :=
  match d, e with
  | .int i, .int j => some (.int (i - j))
  | _, _ => none
def mulD (S : Store) (d e : D) : Option D :=
  match d, e with
  | .int i, .int j => if mulOk i j then some (.int (i * j)) else none
  | a, .int k => match view S a with
    | .lst xs => if 0 ≤ k && k ≤ 1000 && xs.length ≤ 1000 then some (.lst (List.replicate k.toNat xs).flatten) else none
    | _ => none
  | _, _ => none
def fdivD (d e : D) : Option D :=
  match d, e with
  | .int i, .int j => if 0 < j && j < 1073741824 then some (.int (i / j)) else none
  | _, _ => none
def modD (d e : D) : Option D :=
  match d, e with
  | .int i, .int j => if 0 < j then some (.int (i % j)) else none
  | _, _ => none
def powD (d e : D) : Option D :=
  match d, e with
  | .int i, .int j => if 0 ≤ j && j ≤ 1000 && (decide (-BIG < i) && decide (i < BIG)) then some (.int (i ^ j.toNat)) else none
  | _, _ => none
def bops (S : Store) : Bop → D → D → Option D
  | .add => addD S
  | .sub => subD
  | .mul => mulD S
  | .fdiv => fdivD
  | .mod => modD
  | .pow => powD

/-! ### comparisons -/
inductive Cop where | eq | ne | lt | le | gt | ge | isin | nin | is | isnt
/-- the order of data: < where both are of one kind -/
def ltI (i j : Int) : Bool := decide (i < j)
mutual
def ltD : D → D → Option Bool
  | .int i, .int j => some (decide (i < j))
  | .tup xs, .tup ys => ltDs xs ys
  | _, _ => none
def ltDs : List D → List D → Option Bool
  | [], [] => some false
  | [], _ :: _ => some true
  | _ :: _, [] => some false
  | x :: xs, y :: ys => match eqv x y with
    | true => ltDs xs ys
    | false => ltD x y
end
def anyEq (x : D) (ys : List D) : Bool := ys.any fun y => eqv y x
def inD (S : Store) (a b : D) : Option Bool :=
  match a, b with
  | .str x, .str y => match x.cps.toList with
    | [c] => some (decide (c ∈ y.cps.toList))
    | _ => none
  | a, b => match view S b with
    | .lst xs => if shd DEP a && xs.all (shd DEP) then some (anyEq a xs) else none
    | .tup xs => if shd DEP a && xs.all (shd DEP) then some (anyEq a xs) else none
    | _ => none
def isD (a b : D) : Option Bool :=
  match b, a with
  | .non, .non => some true
  | .non, .exc _ => none
  | .non, _ => some false
  | .bl b, .bl a => some (decide (a = b))
  | _, _ => none
def ltO (d e : D) : Option Bool :=
  match d, e with
  | .int i, .int j => some (decide (i < j))
  | .tup xs, .tup ys => match intsD xs, intsD ys with
    | some ns, some ms => some (HT.lexLt ns ms)
    | _, _ => none
  | _, _ => none
def leO (d e : D) : Option Bool :=
  match d, e with
  | .int i, .int j => some (decide (i ≤ j))
  | _, _ => none
def gtO (d e : D) : Option Bool :=
  match d, e with
  | .int i, .int j => some (decide (j < i))
  | _, _ => none
def geO (d e : D) : Option Bool :=
  match d, e with
  | .int i, .int j => some (decide (j ≤ i))
  | _, _ => none
def cops (S : Store) : Cop → D → D → Option Bool
  | .eq, a, b => eqD S a b
  | .ne, a, b => (eqD S a b).map (!·)
  | .lt, a, b => ltO a b
  | .le, a, b => leO a b
  | .gt, a, b => gtO a b
  | .ge, a, b => geO a b
  | .isin, a, b => inD S a b
  | .nin, a, b => (inD S a b).map (!·)
  | .is, a, b => isD a b
  | .isnt, a, b => (isD a b).map (!·)

/-! ### places and slices -/
def cut {α : Type} (xs : List α) (lo hi : Option Int) : List α := (xs.drop (HT.sIx xs.length 0 lo)).take (HT.sIx xs.length xs.length hi - HT.sIx xs.length 0 lo)
def look (kvs : List (D × D)) (k : D) : Option D :=
  match kvs with
  | [] => none
  | (a, v) :: r => if eqv a k then some v else look r k
def putD (k v : D) : List (D × D) → List (D × D)
  | [] => [(k, v)]
  | (a, w) :: r => if eqv a k then (a, v) :: r else (a, w) :: putD k v r
def ixD (S : Store) (a i : D) : Option D :=
  match i with
  | .int i => match seqOf S a with
    | some xs => L2.atI xs i
    | none => match a with
      | .str x => if x.length ≤ LIM then (L2.atI x.cps.toList i).map fun c => .str ⟨#[c]⟩ else none
      | _ => none
  | _ => none
def slD (S : Store) (a : D) (lo hi : Option Int) : Option D :=
  match view S a with
  | .tup xs => some (.tup (cut xs lo hi))
  | .lst xs => some (.lst (cut xs lo hi))
  | .scr ns => some (.lst (cut (ns.map .int) lo hi))
  | .str x => if x.length ≤ LIM then some (.str (L2.cutS x lo hi)) else none
  | _ => none

/-! ### kinds -/
inductive Ty where | int | bool | str | tup | lst | own (c : Str)
def isi (S : Store) (excs : Str → Str → Option Bool) (d : D) (t : Ty) : Option Bool :=
  match t with
  | .own _ => none
  | .int => match view S d with
    | .bl _ => some true
    | .int _ => some true
    | .ref _ => none
    | .exc _ => none
    | _ => some false
  | .bool => match view S d with
    | .bl _ => some true
    | .ref _ => none
    | .exc _ => none
    | _ => some false
  | .str => match view S d with
    | .str _ => some true
    | .ref _ => none
    | .exc _ => none
    | _ => some false
  | .tup => match view S d with
    | .tup _ => some true
    | .ref _ => none
    | .exc _ => none
    | _ => some false
  | .lst => match view S d with
    | .lst _ => some true
    | .scr _ => some true
    | .ref _ => none
    | .exc _ => none
    | _ => some false

/-! ### built-in functions -/
inductive Blt where | len | abs | max | min | sum | all | any | sorted | tuple | list | int | str | repr | lenset | set | lzip
def bltsD : List D → Option (List Bool)
  | [] => some []
  | .bl b :: r => (bltsD r).map (b :: ·)
  | _ :: _ => none
def maxI : List Int → Option Int
  | [] => none
  | [i] => some i
  | i :: r => (maxI r).map fun m => if m > i then m else i
def minI : List Int → Option Int
  | [] => none
  | [i] => some i
  | i :: r => (minI r).map fun m => if m < i then m else i
/-! the data of the library -/
mutual
def toPy : D → PyData
  | .non => .none
  | .bl b => .bool b
  | .int i => .int i
  | .str x => .str x
  | .tup xs => .tuple (toPys xs)
  | .lst xs => .list (toPys xs)
  | .dct _ => .dict []
  | _ => .none
def toPys : List D → List PyData
  | [] => []
  | x :: xs => toPy x :: toPys xs
end
/-- data whose text is told: without refs; of dicts the empty one alone -/
def shw : Nat → D → Bool
  | _, .non => true
  | _, .bl _ => true
  | _, .int i => decide (i.natAbs < 2 ^ 1900)
  | _, .str _ => true
  | n + 1, .tup xs => xs.all (shw n)
  | n + 1, .lst xs => xs.all (shw n)
  | _, .dct kvs => kvs.isEmpty
  | _, _ => false
def insI (i : Int) : List Int → List Int
  | [] => [i]
  | j :: r => if i ≤ j then i :: j :: r else j :: insI i r
def sortI : List Int → List Int
  | [] => []
  | i :: r => insI i (sortI r)
def insD (x : D) : List D → Option (List D)
  | [] => some [x]
  | y :: r => match ltD y x with
    | some true => (insD x r).map (y :: ·)
    | some false => some (x :: y :: r)
    | none => none
def sortD : List D → Option (List D)
  | [] => some []
  | x :: r => (sortD r).bind (insD x)
def distinct : List D → Nat
  | [] => 0
  | x :: r => if anyEq x r then distinct r else distinct r + 1
/-- a tuple of whole numbers -/
def pairI : D → Bool
  | .tup xs => (intsD xs).isSome
  | _ => false
def tupsD : List D → Option (List (List Int))
  | [] => some []
  | .tup xs :: r => match intsD xs, tupsD r with
    | some ns, some ts => some (ns :: ts)
    | _, _ => none
  | _ :: _ => none
def insT (t : List Int) : List (List Int) → List (List Int)
  | [] => [t]
  | u :: r => if HT.lexLt u t = true then u :: insT t r else t :: u :: r
def sortT : List (List Int) → List (List Int)
  | [] => []
  | t :: r => insT t (sortT r)
def SB : Int := 1048576
/-- tuples of one length, at least one, of numbers from 0 on that are not too large -/
def sameT (ts : List (List Int)) : Bool := match ts with
  | [] => true
  | t :: _ => !t.isEmpty && ts.all fun u => u.length == t.length && u.all fun m => decide (0 ≤ m) && decide (m < SB)
def lenD (S : Store) (ds : List D) : Option D :=
  match ds with
  | [d] => match seqOf S d with
    | some xs => some (.int xs.length)
    | none => match d with
      | .str x => if x.length ≤ LIM then some (.int x.length) else none
      | _ => none
  | _ => none
def absD (ds : List D) : Option D :=
  match ds with
  | [.int i] => some (.int (if i < 0 then -i else i))
  | _ => none
def maxD (S : Store) (ds : List D) : Option D :=
  match ds with
  | [.int i, .int j] => some (.int (if j > i then j else i))
  | [d] => match view S d with
    | .lst xs => (intsD xs).bind fun ns => (maxI ns).map .int
    | .tup xs => (intsD xs).bind fun ns => (maxI ns).map .int
    | _ => none
  | _ => none
def minD (S : Store) (ds : List D) : Option D :=
  match ds with
  | [.int i, .int j] => some (.int (if j < i then j else i))
  | [d] => match view S d with
    | .lst xs => (intsD xs).bind fun ns => (minI ns).map .int
    | .tup xs => (intsD xs).bind fun ns => (minI ns).map .int
    | _ => none
  | _ => none
def sumD (S : Store) (ds : List D) : Option D :=
  match ds with
  | [d] => match view S d with
    | .lst xs => (intsD xs).map fun ns => .int ns.sum
    | _ => none
  | _ => none
def allD (S : Store) (ds : List D) : Option D :=
  match ds with
  | [d] => match view S d with
    | .lst xs => (bltsD xs).map fun bs => .bl (bs.all id)
    | _ => none
  | _ => none
def anyD (S : Store) (ds : List D) : Option D :=
  match ds with
  | [d] => match view S d with
    | .lst xs => (bltsD xs).map fun bs => .bl (bs.any id)
    | _ => none
  | _ => none
def sortedD (S : Store) (ds : List D) : Option D :=
  match ds with
  | [d] => match view S d with
    | .lst xs => if xs.length < 64 then (match intsD xs with
      | some ns => some (.lst ((sortI ns).map .int))
      | none => match tupsD xs with
        | some ts => if sameT ts then some (.lst ((sortT ts).map fun t => .tup (t.map .int))) else none
        | none => none) else none
    | _ => none
  | _ => none
def tupleD (S : Store) (ds : List D) : Option D :=
  match ds with
  | [d] => match view S d with
    | .lst xs => some (.tup xs)
    | .tup xs => some (.tup xs)
    | _ => none
  | _ => none
def listD (S : Store) (ds : List D) : Option D :=
  match ds with
  | [d] => match view S d with
    | .lst xs => some (.lst xs)
    | .tup xs => some (.lst xs)
    | _ => none
  | _ => none
def intD (ds : List D) : Option D :=
  match ds with
  | [.int i] => some (.int i)
  | [.bl b] => some (.int (if b then 1 else 0))
  | _ => none
def strOfD (ds : List D) : Option D :=
  match ds with
  | [.int i] => if i.natAbs.log2 < 1920 then some (.str (toString i : String)) else none
  | _ => none
def lensetD (S : Store) (ds : List D) : Option D :=
  match ds with
  | [d] => match view S d with
    | .tup xs => if xs.length < 60 && xs.all pairI then some (.int (distinct xs)) else none
    | _ => none
  | _ => none
def lzipD (S : Store) (ds : List D) : Option D :=
  match ds with
  | [d, e] => match view S d, view S e with
    | .tup xs, .tup ys => if xs.length ≤ LIM then some (.lst (List.zipWith (fun a b => D.tup [a, b]) xs ys)) else none
    | _, _ => none
  | _ => none
def reprD (S : Store) (ds : List D) : Option D :=
  match ds with
  | [d] => if shw 30 (view S d) && decide ((toPy (view S d)).shown.length ≤ LIM) then some (.str (toPy (view S d)).shown) else none
  | _ => none
def bltD (S : Store) : Blt → List D → Option D
  | .len => lenD S
  | .abs => absD
  | .max => maxD S
  | .min => minD S
  | .sum => sumD S
  | .all => allD S
  | .any => anyD S
  | .sorted => sortedD S
  | .tuple => tupleD S
  | .list => listD S
  | .int => intD
  | .str => strOfD
  | .repr => reprD S
  | .lenset => lensetD S
  | .set => fun _ => none
  | .lzip => lzipD S

def cntD (S : Store) (a : D) (ds : List D) : Option D :=
  match view S a, ds with
  | .lst xs, [d] => if shd DEP d && xs.all (shd DEP) then some (.int ((xs.countP fun y => eqv y d : Nat) : Int)) else none
  | _, _ => none
def idxD (S : Store) (a : D) (ds : List D) : Option D :=
  match view S a, ds with
  | .lst xs, [d] => if shd DEP d && xs.all (shd DEP) then (xs.findIdx? fun y => eqv y d).map fun (i : Nat) => D.int (i : Int) else none
  | _, _ => none

/-! ### the text, compact -/
inductive Mth where | count | index
def mthD (S : Store) : Mth → D → List D → Option D
  | .count => cntD S
  | .index => idxD S
mutual
inductive E where
  | var (i : Nat)
  | cst (d : D)
  | glo (x : Str) (d : D)
  | tup (es : Es)
  | lst (es : Es)
  | dct (tk : Bool) (ks vs : Es)
  | mut (e : E)
  | bop (o : Bop) (a b : E)
  | neg (a : E)
  | cmp (o : Cop) (a b : E)
  | chn (o p : Cop) (a b c : E)
  | ch3 (o p r : Cop) (a b c d : E)
  | and (a b : E)
  | or (a b : E)
  | not (a : E)
  | ite (c a b : E)
  | ix (a b : E)
  | sl (a : E) (lo hi : Es)
  | rev (a : E)
  | call (f : Nat) (as : Es)
  | ckw (f : Nat) (as : Es) (perm : List Nat)
  | mk (c : Str) (f : Nat) (as : Es)
  | om (c m : Str) (f : Nat) (o : E) (as : Es)
  | fld (c : Str) (o : E) (f : Str)
  | blt (o : Blt) (as : Es)
  | rng (lt : Bool) (as : Es)
  | mth (o : Mth) (a : E) (as : Es)
  | app (a e : E)
  | ext (a e : E)
  | pop (a : E)
  | ppi (a i : E)
  | isi (a : E) (t : Ty)
  | lc (own : List Nat) (elt : E) (t : Tg) (it : It) (c : Es) (g : Gs)
  | frz (a : E)
inductive Es where
  | nil
  | cons (e : E) (es : Es)
inductive It where
  | of (e : E)
  | rng (es : Es)
  | enu (e : E)
  | zip (a b : E)
  | items (e : E)
inductive Gs where
  | nil
  | cons (t : Tg) (it : It) (c : Es) (g : Gs)
inductive Tg where
  | nm (i : Nat)
  | tup (ts : Tgs)
  | sub (o i : E)
  | fld (c : Str) (o : E) (f : Str)
inductive Tgs where
  | nil
  | cons (t : Tg) (ts : Tgs)
end

mutual
inductive C where
  | asg (t : Tg) (e : E)
  | par (ts : List Nat) (es : Es)
  | expr (e : E)
  | ret (e : E)
  | retN
  | pass
  | ite (c : E) (a b : Cs)
  | whl (c : E) (b : Cs)
  | fr (t : Tg) (it : It) (b : Cs)
  | brk
  | cnt
  | ras (x : Str)
  | tri (b : Cs) (x : Str) (s : Option Nat) (h : Cs)
inductive Cs where
  | nil
  | cons (c : C) (cs : Cs)
end

mutual
def slT : Tg → List Nat
  | .nm i => [i]
  | .tup ts => slTs ts
  | _ => []
def slTs : Tgs → List Nat
  | .nil => []
  | .cons t ts => slT t ++ slTs ts
end
def slG : Gs → List Nat
  | .nil => []
  | .cons t _ _ g => slT t ++ slG g
def tgsLen : Tgs → Nat
  | .nil => 0
  | .cons _ ts => tgsLen ts + 1
def esLen : Es → Nat
  | .nil => 0
  | .cons _ es => esLen es + 1
abbrev Nv := List (Option D)
/-- what a statement comes to -/
inductive Fl where
  | nx (env : Nv)
  | rt (d : D)
  | bk (env : Nv)
  | ct (env : Nv)
inductive RS where
  | ok (f : Fl) (S : Store)
  | exc (c : Str) (env : Nv) (S : Store)
  | bad

def wipeE (env : Nv) : List Nat → Nv
  | [] => env
  | v :: vs => (wipeE env vs).set v none

def getV (env : Nv) (i : Nat) : Option D :=
  match env[i]? with
  | some (some d) => some d
  | _ => none
def rangeI (a b : Int) : List D := (List.range (b - a).toNat).map fun (i : Nat) => D.int (a + (i : Int))
def rangeC (a c : Int) : Nat → List D
  | 0 => []
  | n + 1 => .int a :: rangeC (a + c) c n
def rngD : List D → Option (List D)
  | [.int j] => if -1000000 ≤ j && j ≤ 1000000 then some (rangeI 0 j) else none
  | [.int i, .int j] => if -1000000 ≤ i && i ≤ 1000000 && -1000000 ≤ j && j ≤ 1000000 then some (rangeI i j) else none
  | [.int i, .int j, .int c] => if -1000000 ≤ i && i ≤ 1000000 && -1000000 ≤ j && j ≤ 1000000 && c == -1 then some (rangeC i (-1) (i - j).toNat) else none
  | _ => none
def enuD : Nat → List D → List D
  | _, [] => []
  | n, x :: r => .tup [.int n, x] :: enuD (n + 1) r
def zipD : List D → List D → List D
  | x :: xs, y :: ys => .tup [x, y] :: zipD xs ys
  | _, _ => []
def strD (x : Str) : List D := x.cps.toList.map fun c => .str ⟨#[c]⟩

/-- the loop of a comprehension -/
def compL (f : D → Store → R (List D)) : List D → Store → R (List D)
  | [], S => .ok [] S
  | d :: ds, S => match f d S with
    | .ok xs S1 => match compL f ds S1 with
      | .ok ys S2 => .ok (xs ++ ys) S2
      | _ => .bad
    | _ => .bad

/-- what the evaluator leans on: calls of own defs, subclasses among the own classes -/
structure Fx where
  F : Nat → List D → Store → R D
  sub : Str → Str → Option Bool

/-- deep freezing of what lies at n and beyond -/
def fzD (S : Store) (n : Nat) : Nat → D → Option D
  | 0, _ => none
  | m + 1, .tup xs => (xs.mapM (fzD S n m)).map .tup
  | m + 1, .lst xs => (xs.mapM (fzD S n m)).map .lst
  | m + 1, .ref k => if k < n then some (.ref k) else match S[k]? with
    | some (.lst xs) => (xs.mapM (fzD S n m)).map .lst
    | _ => none
  | _, .dct _ => none
  | _, .exc _ => none
  | _, d => some d
/-- no ref at n or beyond -/
def below (n : Nat) : Nat → D → Bool
  | 0, _ => false
  | m + 1, .tup xs => xs.all (below n m)
  | m + 1, .lst xs => xs.all (below n m)
  | _, .dct _ => false
  | _, .ref k => decide (k < n)
  | _, _ => true
def cellBelow (n : Nat) : Cell → Bool
  | .lst xs => xs.all (below n DEP)
  | .dct _ => false
  | .ins _ fs => fs.all fun p => below n DEP p.2
  | .dead => true

def putFs (f : Str) (v : D) : List (Str × D) → List (Str × D)
  | [] => [(f, v)]
  | (g, w) :: r => if f == g then (g, v) :: r else (g, w) :: putFs f v r
section
variable (X : Fx)
mutual
def evE : E → Nv → Store → R D
  | .var i, env, S => R.of (getV env i) S
  | .cst d, _, S => .ok d S
  | .glo _ d, _, S => .ok d S
  | .tup es, env, S => (evEs es env S).bind fun ds S => if ds.length ≤ LIM then .ok (.tup ds) S else .bad
  | .lst es, env, S => (evEs es env S).bind fun ds S => if ds.length ≤ LIM then .ok (.lst ds) S else .bad
  | .dct _ ks vs, env, S => match ks, vs with
    | .nil, .nil => .ok (.dct []) S
    | .cons k .nil, .cons v .nil => (evE k env S).bind fun a S => (evE v env S).bind fun b S => .ok (.dct [(a, b)]) S
    | _, _ => .bad
  | .mut e, env, S => (evE e env S).bind fun x S => match x with
    | .lst xs => .ok (.ref S.length) (S ++ [.lst xs])
    | .dct kvs => .ok (.ref S.length) (S ++ [.dct kvs])
    | _ => .bad
  | .bop o a b, env, S => (evE a env S).bind fun x S => (evE b env S).bind fun y S => R.of (bops S o x y) S
  | .neg a, env, S => (evE a env S).bind fun x S => match x with
    | .int i => .ok (.int (-i)) S
    | _ => .bad
  | .cmp o a b, env, S => (evE a env S).bind fun x S => (evE b env S).bind fun y S => R.of ((cops S o x y).map .bl) S
  | .chn o p a b c, env, S => (evE a env S).bind fun x S => (evE b env S).bind fun y S => match cops S o x y with
    | some true => (evE c env S).bind fun z S => R.of ((cops S p y z).map .bl) S
    | some false => .ok (.bl false) S
    | none => .bad
  | .ch3 o p r a b c d, env, S => (evE a env S).bind fun x S => (evE b env S).bind fun y S => match cops S o x y with
    | some true => (evE c env S).bind fun z S => match cops S p y z with
      | some true => (evE d env S).bind fun u S => R.of ((cops S r z u).map .bl) S
      | some false => .ok (.bl false) S
      | none => .bad
    | some false => .ok (.bl false) S
    | none => .bad
  | .and a b, env, S => (evE a env S).bind fun x S => match truth S x with
    | some true => evE b env S
    | some false => .ok x S
    | none => .bad
  | .or a b, env, S => (evE a env S).bind fun x S => match truth S x with
    | some true => .ok x S
    | some false => evE b env S
    | none => .bad
  | .not a, env, S => (evE a env S).bind fun x S => match truth S x with
    | some b => .ok (.bl (!b)) S
    | none => .bad
  | .ite c a b, env, S => (evE c env S).bind fun x S => match truth S x with
    | some true => evE a env S
    | some false => evE b env S
    | none => .bad
  | .ix a b, env, S => (evE a env S).bind fun x S => (evE b env S).bind fun y S => R.of (ixD S x y) S
  | .sl a lo hi, env, S => (evE a env S).bind fun x S => (evPt lo env S).bind fun l S => (evPt hi env S).bind fun h S => R.of (slD S x l h) S
  | .rev a, env, S => (evE a env S).bind fun x S => match view S x with
    | .tup xs => .ok (.tup xs.reverse) S
    | .lst xs => .ok (.lst xs.reverse) S
    | _ => .bad
  | .call f as, env, S => (evEs as env S).bind fun ds S => X.F f ds S
  | .ckw f as perm, env, S => (evEs as env S).bind fun ds S => match perm.mapM fun i => ds[i]? with
    | some ds => X.F f ds S
    | none => .bad
  | .mk c f as, env, S => (evEs as env S).bind fun ds S => (X.F f (.ref S.length :: ds) (S ++ [.ins c []])).bind fun _ S' => .ok (.ref S.length) S'
  | .om c _ f o as, env, S => (evE o env S).bind fun x S => match x with
    | .ref k => match S[k]? with
      | some (.ins c' _) => if c' == c then (evEs as env S).bind fun ds S => X.F f (.ref k :: ds) S else .bad
      | _ => .bad
    | _ => .bad
  | .fld c o f, env, S => (evE o env S).bind fun x S => match x with
    | .ref k => match S[k]? with
      | some (.ins c' fs) => if c' == c then R.of (fs.lookup f) S else .bad
      | _ => .bad
    | _ => .bad
  | .blt o as, env, S => (evEs as env S).bind fun ds S => R.of (bltD S o ds) S
  | .rng lt as, env, S => (evEs as env S).bind fun ds S => match rngD ds with
    | some xs => match lt with
      | true => .ok (.lst xs) S
      | false => .ok (.tup xs) S
    | none => .bad
  | .mth o a as, env, S => (evE a env S).bind fun x S => match view S x with
    | .lst _ => (evEs as env S).bind fun ds S => R.of (mthD S o x ds) S
    | _ => .bad
  | .app a e, env, S => (evE a env S).bind fun x S => match view S x with
    | .lst _ => (evE e env S).bind fun d S => match x with
      | .ref k => match S[k]? with
        | some (.lst xs) => if xs.length < LIM then .ok .non (S.set k (.lst (xs ++ [d]))) else .bad
        | _ => .bad
      | _ => .bad
    | _ => .bad
  | .ext a e, env, S => (evE a env S).bind fun x S => match view S x with
    | .lst _ => (evE e env S).bind fun d S => match x with
      | .ref k => match S[k]?, view S d with
        | some (.lst xs), .lst ys => if xs.length + ys.length ≤ LIM then .ok .non (S.set k (.lst (xs ++ ys))) else .bad
        | _, _ => .bad
      | _ => .bad
    | _ => .bad
  | .pop a, env, S => (evE a env S).bind fun x S => match x with
    | .ref k => match S[k]? with
      | some (.lst xs) => match xs[xs.length - 1]? with
        | some d => .ok d (S.set k (.lst xs.dropLast))
        | none => .bad
      | _ => .bad
    | _ => .bad
  | .ppi a i, env, S => (evE a env S).bind fun x S => match view S x with
    | .lst _ => (evE i env S).bind fun y S => match x, y with
      | .ref k, .int j => match S[k]? with
        | some (.lst xs) => match L2.ixN xs.length j with
          | some n => match xs[n]? with
            | some d => if xs.length ≤ LIM then .ok d (S.set k (.lst (xs.eraseIdx n))) else .bad
            | none => .bad
          | none => .bad
        | _ => .bad
      | _, _ => .bad
    | _ => .bad
  | .isi a t, env, S => (evE a env S).bind fun x S => R.of ((isi S X.sub x t).map .bl) S
  | .lc own elt t it c g, env, S => (evIt it env S).bind fun items S =>
    match compL (fun d S => (bindT t d (wipeE env own) S).bind fun env1 S => (evTs c env1 S).bind fun b S => match b with
      | true => evGs g (fun e S => (evE elt e S).bind fun x S => .ok [x] S) env1 S
      | false => .ok [] S) items S with
    | .ok ds S => if ds.length ≤ LIM then .ok (.lst ds) S else .bad
    | _ => .bad
  | .frz a, env, S => (evE a env S).bind fun x S => match x with
    | .ref k => match S[k]? with
      | some (.lst xs) => .ok (.lst xs) (S.set k .dead)
      | some (.dct xs) => .ok (.dct xs) (S.set k .dead)
      | _ => .bad
    | d => .ok d S
def evEs : Es → Nv → Store → R (List D)
  | .nil, _, S => .ok [] S
  | .cons e es, env, S => (evE e env S).bind fun d S => (evEs es env S).bind fun ds S => .ok (d :: ds) S
def evPt : Es → Nv → Store → R (Option Int)
  | .nil, _, S => .ok none S
  | .cons e .nil, env, S => (evE e env S).bind fun d S => match d with
    | .int i => .ok (some i) S
    | _ => .bad
  | _, _, _ => .bad
def evIt : It → Nv → Store → R (List D)
  | .of e, env, S => (evE e env S).bind fun x S => match x with
    | .tup xs => .ok xs S
    | .lst xs => .ok xs S
    | .str x => .ok (strD x) S
    | .scr ns => .ok (ns.map .int) S
    | _ => .bad
  | .rng es, env, S => (evEs es env S).bind fun ds S => R.of (rngD ds) S
  | .enu e, env, S => (evE e env S).bind fun x S => match x with
    | .tup xs => .ok (enuD 0 xs) S
    | .lst xs => .ok (enuD 0 xs) S
    | _ => .bad
  | .zip a b, env, S => (evE a env S).bind fun x S => (evE b env S).bind fun y S => match x, y with
    | .tup xs, .tup ys => .ok (zipD xs ys) S
    | .lst xs, .lst ys => .ok (zipD xs ys) S
    | _, _ => .bad
  | .items _, _, _ => .bad
def evGs : Gs → (Nv → Store → R (List D)) → Nv → Store → R (List D)
  | .nil, k, env, S => k env S
  | .cons t it c g, k, env, S => match evIt it env S with
    | .ok items S => compL (fun d S => (bindT t d (wipeE env (slT t ++ slG g)) S).bind fun env1 S => (evTs c env1 S).bind fun b S => match b with
      | true => evGs g k env1 S
      | false => .ok [] S) items S
    | _ => .bad
def evTs : Es → Nv → Store → R Bool
  | .nil, _, S => .ok true S
  | .cons q .nil, env, S => (evE q env S).bind fun b S => R.of (truth S b) S
  | _, _, _ => .bad
def bindT : Tg → D → Nv → Store → R Nv
  | .nm i, d, env, S => .ok (env.set i (some d)) S
  | .tup ts, d, env, S => match seqOf S d with
    | some xs => if xs.length = tgsLen ts then bindTs ts xs env S else .bad
    | none => .bad
  | .sub o i, d, env, S => (evE o env S).bind fun x S => (evE i env S).bind fun y S => match x with
    | .ref k => match S[k]? with
      | some (.lst xs) => match y with
        | .int j => match L2.ixN xs.length j with
          | some n => .ok env (S.set k (.lst (xs.set n d)))
          | none => .bad
        | _ => .bad
      | _ => .bad
    | _ => .bad
  | .fld c o f, d, env, S => (evE o env S).bind fun x S => match x with
    | .ref k => match S[k]? with
      | some (.ins c' fs) => if c' == c && decide (fs.length < 100) then .ok env (S.set k (.ins c (putFs f d fs))) else .bad
      | _ => .bad
    | _ => .bad
def bindTs : Tgs → List D → Nv → Store → R Nv
  | .nil, [], env, S => .ok env S
  | .cons t ts, d :: ds, env, S => match bindT t d env S with
    | .ok env S => match bindTs ts ds env S with
      | .ok env S => .ok env S
      | _ => .bad
    | _ => .bad
  | _, _, _, _ => .bad
end

/-! ### statements -/
def RS.of (r : R D) (env : Nv) (f : D → Store → RS) : RS :=
  match r with
  | .ok d S => f d S
  | .exc c S => .exc c env S
  | .bad => .bad
/-- a for over items; b: the body -/
def forL (t : Tg) (b : Nv → Store → RS) : List D → Nv → Store → RS
  | [], env, S => .ok (.nx env) S
  | d :: ds, env, S => match bindT X t d env S with
    | .ok env1 S1 => match b env1 S1 with
      | .ok (.nx e) S2 => forL t b ds e S2
      | .ok (.ct e) S2 => forL t b ds e S2
      | .ok (.bk e) S2 => .ok (.nx e) S2
      | r => r
    | .exc c S1 => .exc c env S1
    | .bad => .bad
/-- a while of at most so many turns -/
def whlL (c : E) (b : Nv → Store → RS) : Nat → Nv → Store → RS
  | 0, _, _ => .bad
  | n + 1, env, S => RS.of (evE X c env S) env fun x S => match truth S x with
    | some true => match b env S with
      | .ok (.nx e) S2 => whlL c b n e S2
      | .ok (.ct e) S2 => whlL c b n e S2
      | .ok (.bk e) S2 => .ok (.nx e) S2
      | r => r
    | some false => .ok (.nx env) S
    | none => .bad
def setAll : List Nat → List D → Nv → Option Nv
  | [], [], env => some env
  | i :: is, d :: ds, env => setAll is ds (env.set i (some d))
  | _, _, _ => none
def WHL : Nat := 100000
mutual
def evC : C → Nv → Store → RS
  | .asg t e, env, S => RS.of (evE X e env S) env fun d S => match bindT X t d env S with
    | .ok env1 S1 => .ok (.nx env1) S1
    | .exc c S1 => .exc c env S1
    | .bad => .bad
  | .par ts es, env, S => match evEs X es env S with
    | .ok ds S1 => match setAll ts ds env with
      | some env1 => .ok (.nx env1) S1
      | none => .bad
    | .exc c S1 => .exc c env S1
    | .bad => .bad
  | .expr e, env, S => RS.of (evE X e env S) env fun _ S => .ok (.nx env) S
  | .ret e, env, S => RS.of (evE X e env S) env fun d S => .ok (.rt d) S
  | .retN, _, S => .ok (.rt .non) S
  | .pass, env, S => .ok (.nx env) S
  | .ite c a b, env, S => RS.of (evE X c env S) env fun x S => match truth S x with
    | some true => evCs a env S
    | some false => evCs b env S
    | none => .bad
  | .whl c b, env, S => whlL X c (fun e S => evCs b e S) WHL env S
  | .fr t it b, env, S => match evIt X it env S with
    | .ok items S1 => forL X t (fun e S => evCs b e S) items env S1
    | .exc c S1 => .exc c env S1
    | .bad => .bad
  | .brk, env, S => .ok (.bk env) S
  | .cnt, env, S => .ok (.ct env) S
  | .ras x, env, S => .exc x env S
  | .tri b x s h, env, S => match evCs b env S with
    | .exc c e1 S1 => match X.sub c x with
      | some true => match s with
        | none => evCs h e1 S1
        | some i => match evCs h (e1.set i (some (.exc c))) S1 with
          | .ok (.nx e) S2 => .ok (.nx (e.set i none)) S2
          | r => r
      | _ => .bad
    | r => r
def evCs : Cs → Nv → Store → RS
  | .nil, env, S => .ok (.nx env) S
  | .cons c cs, env, S => match evC c env S with
    | .ok (.nx e) S1 => evCs cs e S1
    | r => r
end
end

/-! ### defs -/
/-- a def: how many parameters, how many names, its body; keep: what it makes may change later on -/
structure Fn where
  np : Nat
  nn : Nat
  keep : Bool
  body : Cs
def callFn (X : Fx) (f : Fn) (ds : List D) (S : Store) : R D :=
  if ds.length = f.np then
    match evCs X f.body (ds.map some ++ List.replicate (f.nn - ds.length) none) S with
    | .ok r S' =>
      let d := match r with
        | .rt d => d
        | _ => .non
      let okF := match r with
        | .rt _ => true
        | .nx _ => true
        | _ => false
      if okF then
        if f.keep then .ok d S'
        else match fzD S' S.length DEP d with
          | some d' => if (S'.take S.length).all (cellBelow S.length) then .ok d' (S'.take S.length) else .bad
          | none => .bad
      else .bad
    | .exc c _ S' => if f.keep then .exc c S' else if (S'.take S.length).all (cellBelow S.length) then .exc c (S'.take S.length) else .bad
    | .bad => .bad
  else .bad
/-- so many calls deep -/
def run (T : List Fn) (sub : Str → Str → Option Bool) : Nat → Nat → List D → Store → R D
  | 0, _, _, _ => .bad
  | k + 1, f, ds, S => match T[f]? with
    | some fn => callFn ⟨run T sub k, sub⟩ fn ds S
    | none => .bad
end Rs
end

section
set_option Elab.async false
set_option linter.all false
set_option maxRecDepth 100000
set_option maxHeartbeats 1000000
set_option autoImplicit false
/-! RsRel: how data lies in the abstract heap of the hand layer. Own work. -/
namespace Rs
open PySem PySem.Spec PyProof.Rows L2

/-- c: the cells' addresses, each with whether it may change; o: lists that are being made -/
structure Ads where
  c : List (Addr × Bool)
  o : List Addr
def Ads.live (A : Ads) (a : Addr) : Prop := (a, true) ∈ A.c ∨ a ∈ A.o
def Ads.add (A : Ads) (p : Addr) : Ads := { A with c := A.c ++ [(p, true)] }
def Ads.push (A : Ads) (p : Addr) : Ads := { A with o := p :: A.o }
def keyD : D → Option Key
  | .int i => some (.inl i)
  | .str x => some (.inr x)
  | _ => none
def keysD : D → Option (List Key)
  | .tup xs => xs.mapM keyD
  | _ => none

section
variable (K : PySem.W.Frag) (H : Hp) (A : Ads)
mutual
/-- v is the data d -/
def Rp : D → V → Prop
  | .non, v => v = .non
  | .bl b, v => v = .bl b
  | .int i, v => v = .int i
  | .str x, v => v = .str x
  | .tup ds, v => ∃ a vs, v = .ref a ∧ SqT K H a vs ∧ Rps ds vs
  | .lst ds, v => ∃ a vs, v = .ref a ∧ H a = some (.lst vs) ∧ ¬ A.live a ∧ Rps ds vs
  | .dct kvs, v => ∃ a, v = .ref a ∧ ¬ A.live a ∧ ((∃ kv, Rd H a (.dK kv) ∧ RpK kvs kv) ∨ ∃ kv, Rd H a (.dT kv) ∧ RpT kvs kv)
  | .ref k, v => ∃ a b, A.c[k]? = some (a, b) ∧ v = .ref a
  | .exc _, _ => False
  | .scr ns, v => ∃ a, v = .ref a ∧ ((Rd H a (.lst (ns.map V.int)) ∧ ¬ A.live a) ∨ ∀ H', SqL K H' a (ns.map V.int))
def Rps : List D → List V → Prop
  | [], vs => vs = []
  | d :: ds, vs => ∃ v r, vs = v :: r ∧ Rp d v ∧ Rps ds r
def RpK : List (D × D) → List (Key × V) → Prop
  | [], kv => kv = []
  | (k, d) :: r, kv => ∃ q v s, kv = (q, v) :: s ∧ keyD k = some q ∧ Rp d v ∧ RpK r s
def RpT : List (D × D) → List (List Key × V) → Prop
  | [], kv => kv = []
  | (k, d) :: r, kv => ∃ q v s, kv = (q, v) :: s ∧ keysD k = some q ∧ Rp d v ∧ RpT r s
end
end

/-- what stood stands, but for what may change -/
structure Ex (A : Ads) (H : Hp) (A' : Ads) (H' : Hp) : Prop where
  rd : ∀ a u, ¬ A.live a → Rd H a u → Rd H' a u
  ls : ∀ a vs, ¬ A.live a → H a = some (.lst vs) → H' a = some (.lst vs)
  pre : ∀ (k : Nat) (a : Addr) (b : Bool), A.c[k]? = some (a, b) → ∃ b', A'.c[k]? = some (a, b')
  new : ∀ a, A'.live a → A.live a ∨ H a = none
/-- and the lists that are being made -/
structure Ext (A : Ads) (H : Hp) (A' : Ads) (H' : Hp) : Prop extends Ex A H A' H' where
  own : A'.o = A.o
  ow : ∀ a, a ∈ A.o → H' a = H a
/-- and the lists that are being made, but for one -/
structure ExtD (D : Addr) (A : Ads) (H : Hp) (A' : Ads) (H' : Hp) : Prop extends Ex A H A' H' where
  own : A'.o = A.o
  ow : ∀ a, a ∈ A.o → a ≠ D → H' a = H a

theorem rd_ne {H : Hp} {a : Addr} {u : HO} (r : Rd H a u) : H a ≠ none := by
  rcases r with r | ⟨o, r⟩ <;> rw [r] <;> exact fun z => nomatch z
theorem rd_of_some {H : Hp} {a : Addr} (h : H a ≠ none) : ∃ u, Rd H a u := by
  cases q : H a with
  | none => exact absurd q h
  | some u => exact ⟨u, .inl q⟩
theorem Ex.refl (A : Ads) (H : Hp) : Ex A H A H := ⟨fun _ _ _ r => r, fun _ _ _ r => r, fun _ _ b h => ⟨b, h⟩, fun _ h => .inl h⟩
theorem Ext.refl (A : Ads) (H : Hp) : Ext A H A H := ⟨Ex.refl A H, rfl, fun _ _ => rfl⟩
theorem Ex.trans {A A1 A2 : Ads} {H H1 H2 : Hp} (x : Ex A H A1 H1) (y : Ex A1 H1 A2 H2) : Ex A H A2 H2 where
  rd := fun a u n r => by
    refine y.rd a u (fun z => ?_) (x.rd a u n r)
    rcases x.new a z with z | z
    · exact n z
    · exact rd_ne r z
  ls := fun a u n r => by
    refine y.ls a u (fun z => ?_) (x.ls a u n r)
    rcases x.new a z with z | z
    · exact n z
    · rw [z] at r; cases r
  pre := fun k a b h => by
    obtain ⟨b1, h1⟩ := x.pre k a b h
    exact y.pre k a b1 h1
  new := fun a h => by
    rcases y.new a h with h | h
    · exact x.new a h
    · by_cases hA : A.live a
      · exact .inl hA
      · refine .inr ?_
        by_cases q : H a = none
        · exact q
        · obtain ⟨u, r⟩ := rd_of_some q
          exact absurd h (rd_ne (x.rd a u hA r))

theorem Ext.trans {A A1 A2 : Ads} {H H1 H2 : Hp} (x : Ext A H A1 H1) (y : Ext A1 H1 A2 H2) : Ext A H A2 H2 where
  toEx := x.toEx.trans y.toEx
  own := y.own.trans x.own
  ow := fun a h => (y.ow a (by rw [x.own]; exact h)).trans (x.ow a h)
theorem Ext.toD {A A1 : Ads} {H H1 : Hp} (D : Addr) (x : Ext A H A1 H1) : ExtD D A H A1 H1 := ⟨x.toEx, x.own, fun a h _ => x.ow a h⟩
theorem ExtD.trans {D : Addr} {A A1 A2 : Ads} {H H1 H2 : Hp} (x : ExtD D A H A1 H1) (y : ExtD D A1 H1 A2 H2) : ExtD D A H A2 H2 where
  toEx := x.toEx.trans y.toEx
  own := y.own.trans x.own
  ow := fun a h n => (y.ow a (by rw [x.own]; exact h) n).trans (x.ow a h n)
theorem ExtD.refl (D : Addr) (A : Ads) (H : Hp) : ExtD D A H A H := (Ext.refl A H).toD D

section
variable {K : PySem.W.Frag} {H H' : Hp} {A A' : Ads}
/-- what may change is no tuple -/
def NoTup (H : Hp) (A : Ads) : Prop := ∀ a, A.live a → ∀ vs, ¬ Rd H a (.tup vs)
theorem Ex.sqT (x : Ex A H A' H') (hA : NoTup H A) {a : Addr} {vs : List V} (h : SqT K H a vs) : SqT K H' a vs := by
  rcases h with h | h
  · exact .inl (x.rd a _ (fun z => hA _ z vs h) h)
  · exact .inr h
mutual
theorem Rp.monoE (x : Ex A H A' H') (nt : NoTup H A) : ∀ (d : D) (v : V), Rp K H A d v → Rp K H' A' d v
  | .non, _, h => h
  | .bl _, _, h => h
  | .int _, _, h => h
  | .str _, _, h => h
  | .tup ds, v, h => by
    unfold Rp at h ⊢
    obtain ⟨a, vs, e, s, r⟩ := h
    exact ⟨a, vs, e, x.sqT nt s, Rps.monoE x nt ds vs r⟩
  | .lst ds, v, h => by
    unfold Rp at h ⊢
    obtain ⟨a, vs, e, s, n, r⟩ := h
    refine ⟨a, vs, e, x.ls a vs n s, fun z => ?_, Rps.monoE x nt ds vs r⟩
    rcases x.new a z with z | z
    · exact n z
    · rw [z] at s; cases s
  | .dct kvs, v, h => by
    unfold Rp at h ⊢
    obtain ⟨a, e, n, s⟩ := h
    refine ⟨a, e, fun z => ?_, ?_⟩
    · rcases x.new a z with z | z
      · exact n z
      · rcases s with ⟨_, s, _⟩ | ⟨_, s, _⟩ <;> exact rd_ne s z
    · rcases s with ⟨kv, s, r⟩ | ⟨kv, s, r⟩
      · exact .inl ⟨kv, x.rd a _ n s, RpK.monoE x nt kvs kv r⟩
      · exact .inr ⟨kv, x.rd a _ n s, RpT.monoE x nt kvs kv r⟩
  | .ref k, v, h => by
    unfold Rp at h ⊢
    obtain ⟨a, b, h1, h2⟩ := h
    obtain ⟨b', h3⟩ := x.pre k a b h1
    exact ⟨a, b', h3, h2⟩
  | .exc _, _, h => by unfold Rp at h; exact h.elim
  | .scr ns, v, h => by
    unfold Rp at h ⊢
    obtain ⟨a, e, s⟩ := h
    refine ⟨a, e, ?_⟩
    rcases s with ⟨s, n⟩ | s
    · refine .inl ⟨x.rd a _ n s, fun z => ?_⟩
      rcases x.new a z with z | z
      · exact n z
      · exact rd_ne s z
    · exact .inr s
theorem Rps.monoE (x : Ex A H A' H') (nt : NoTup H A) : ∀ (ds : List D) (vs : List V), Rps K H A ds vs → Rps K H' A' ds vs
  | [], _, h => h
  | d :: ds, vs, h => by
    unfold Rps at h ⊢
    obtain ⟨v, r, e, h1, h2⟩ := h
    exact ⟨v, r, e, Rp.monoE x nt d v h1, Rps.monoE x nt ds r h2⟩
theorem RpK.monoE (x : Ex A H A' H') (nt : NoTup H A) : ∀ (ds : List (D × D)) (vs : List (Key × V)), RpK K H A ds vs → RpK K H' A' ds vs
  | [], _, h => h
  | (k, d) :: ds, vs, h => by
    unfold RpK at h ⊢
    obtain ⟨q, v, r, e, h0, h1, h2⟩ := h
    exact ⟨q, v, r, e, h0, Rp.monoE x nt d v h1, RpK.monoE x nt ds r h2⟩
theorem RpT.monoE (x : Ex A H A' H') (nt : NoTup H A) : ∀ (ds : List (D × D)) (vs : List (List Key × V)), RpT K H A ds vs → RpT K H' A' ds vs
  | [], _, h => h
  | (k, d) :: ds, vs, h => by
    unfold RpT at h ⊢
    obtain ⟨q, v, r, e, h0, h1, h2⟩ := h
    exact ⟨q, v, r, e, h0, Rp.monoE x nt d v h1, RpT.monoE x nt ds r h2⟩
end

theorem Rp.mono (x : Ext A H A' H') (nt : NoTup H A) (d : D) (v : V) (h : Rp K H A d v) : Rp K H' A' d v := Rp.monoE x.toEx nt d v h
theorem Rps.mono (x : Ext A H A' H') (nt : NoTup H A) (d : List D) (v : List V) (h : Rps K H A d v) : Rps K H' A' d v := Rps.monoE x.toEx nt d v h
theorem RpK.mono (x : Ext A H A' H') (nt : NoTup H A) (d : List (D × D)) (v : List (Key × V)) (h : RpK K H A d v) : RpK K H' A' d v := RpK.monoE x.toEx nt d v h
theorem RpT.mono (x : Ext A H A' H') (nt : NoTup H A) (d : List (D × D)) (v : List (List Key × V)) (h : RpT K H A d v) : RpT K H' A' d v := RpT.monoE x.toEx nt d v h

/-! ### lists of data -/
theorem Rps.nil : Rps K H A [] [] := rfl
theorem Rps.cons {d : D} {v : V} {ds : List D} {vs : List V} (h : Rp K H A d v) (r : Rps K H A ds vs) : Rps K H A (d :: ds) (v :: vs) := by
  unfold Rps; exact ⟨v, vs, rfl, h, r⟩
theorem Rps.inv {d : D} {ds : List D} {vs : List V} (h : Rps K H A (d :: ds) vs) : ∃ v r, vs = v :: r ∧ Rp K H A d v ∧ Rps K H A ds r := by
  unfold Rps at h; exact h
theorem Rps.length : ∀ {ds : List D} {vs : List V}, Rps K H A ds vs → ds.length = vs.length
  | [], _, h => by unfold Rps at h; rw [h]; rfl
  | d :: ds, _, h => by
    obtain ⟨v, r, e, _, h2⟩ := h.inv
    rw [e, List.length_cons, List.length_cons, Rps.length h2]
theorem Rps.get : ∀ {ds : List D} {vs : List V} {i : Nat} {d : D}, Rps K H A ds vs → ds[i]? = some d → ∃ v, vs[i]? = some v ∧ Rp K H A d v
  | [], _, _, _, _, e => by simp at e
  | d :: ds, vs, 0, _, h, e => by
    obtain ⟨v, r, ev, h1, h2⟩ := h.inv
    simp at e; subst e; subst ev
    exact ⟨v, rfl, h1⟩
  | d :: ds, vs, i + 1, _, h, e => by
    obtain ⟨v, r, ev, h1, h2⟩ := h.inv
    subst ev
    obtain ⟨w, a, b⟩ := Rps.get (i := i) h2 (by simpa using e)
    exact ⟨w, by simpa using a, b⟩
theorem Rps.append : ∀ {ds es : List D} {vs us : List V}, Rps K H A ds vs → Rps K H A es us → Rps K H A (ds ++ es) (vs ++ us)
  | [], _, _, _, h, k => by unfold Rps at h; rw [h]; exact k
  | d :: ds, _, vs, _, h, k => by
    obtain ⟨v, r, e, h1, h2⟩ := h.inv
    subst e
    exact .cons h1 (Rps.append h2 k)
theorem Rps.take : ∀ (n : Nat) {ds : List D} {vs : List V}, Rps K H A ds vs → Rps K H A (ds.take n) (vs.take n)
  | 0, _, _, _ => by simp; exact Rps.nil
  | n + 1, [], _, h => by unfold Rps at h; rw [h]; exact Rps.nil
  | n + 1, d :: ds, _, h => by
    obtain ⟨v, r, e, h1, h2⟩ := h.inv
    subst e
    exact .cons h1 (Rps.take n h2)
theorem Rps.drop : ∀ (n : Nat) {ds : List D} {vs : List V}, Rps K H A ds vs → Rps K H A (ds.drop n) (vs.drop n)
  | 0, _, _, h => h
  | n + 1, [], _, h => by unfold Rps at h; rw [h]; exact Rps.nil
  | n + 1, d :: ds, _, h => by
    obtain ⟨v, r, e, h1, h2⟩ := h.inv
    subst e
    exact Rps.drop n h2
theorem Rps.cut {ds : List D} {vs : List V} (h : Rps K H A ds vs) (lo hi : Option Int) : Rps K H A (Rs.cut ds lo hi) (cutV vs lo hi) := by
  unfold Rs.cut cutV
  rw [h.length]
  exact (h.drop _).take _
theorem Rps.reverse : ∀ {ds : List D} {vs : List V}, Rps K H A ds vs → Rps K H A ds.reverse vs.reverse
  | [], _, h => by unfold Rps at h; rw [h]; exact Rps.nil
  | d :: ds, _, h => by
    obtain ⟨v, r, e, h1, h2⟩ := h.inv
    subst e
    rw [List.reverse_cons, List.reverse_cons]
    exact (Rps.reverse h2).append (.cons h1 .nil)
theorem Rps.set {d : D} {v : V} (h0 : Rp K H A d v) : ∀ (n : Nat) {ds : List D} {vs : List V}, Rps K H A ds vs → Rps K H A (ds.set n d) (vs.set n v)
  | _, [], _, h => by unfold Rps at h; rw [h]; exact Rps.nil
  | 0, _ :: ds, _, h => by
    obtain ⟨w, r, e, h1, h2⟩ := h.inv
    subst e
    exact .cons h0 h2
  | n + 1, _ :: ds, _, h => by
    obtain ⟨w, r, e, h1, h2⟩ := h.inv
    subst e
    exact .cons h1 (Rps.set h0 n h2)
theorem Rps.dropLast : ∀ {ds : List D} {vs : List V}, Rps K H A ds vs → Rps K H A ds.dropLast vs.dropLast := fun {ds vs} h => by
  rw [List.dropLast_eq_take, List.dropLast_eq_take, h.length]
  exact h.take _
theorem Rps.snoc {ds : List D} {vs : List V} {d : D} {v : V} (h : Rps K H A ds vs) (k : Rp K H A d v) : Rps K H A (ds ++ [d]) (vs ++ [v]) := h.append (.cons k .nil)
theorem Rps.flat {ds : List D} {vs : List V} (h : Rps K H A ds vs) : ∀ k : Nat, Rps K H A (List.replicate k ds).flatten (List.replicate k vs).flatten
  | 0 => Rps.nil
  | k + 1 => by
    rw [List.replicate_succ, List.replicate_succ, List.flatten_cons, List.flatten_cons]
    exact h.append (Rps.flat h k)
end

/-! ### names -/
def EnvR (K : PySem.W.Frag) (H : Hp) (A : Ads) (env : Nv) (σ : L2.St) : Prop :=
  σ.length = env.length ∧ ∀ (i : Nat) (d : D), env[i]? = some (some d) → ∃ v, σ[i]? = some (some v) ∧ Rp K H A d v
section
variable {K : PySem.W.Frag} {H H' : Hp} {A A' : Ads} {env : Nv} {σ : L2.St}
theorem EnvR.monoE (x : Ex A H A' H') (nt : NoTup H A) (h : EnvR K H A env σ) : EnvR K H' A' env σ :=
  ⟨h.1, fun i d e => let ⟨v, e1, r⟩ := h.2 i d e; ⟨v, e1, r.monoE x nt⟩⟩
theorem EnvR.mono (x : Ext A H A' H') (nt : NoTup H A) (h : EnvR K H A env σ) : EnvR K H' A' env σ := h.monoE x.toEx nt
theorem EnvR.get (h : EnvR K H A env σ) {i : Nat} {d : D} (e : getV env i = some d) : ∃ v, σ[i]? = some (some v) ∧ Rp K H A d v := by
  refine h.2 i d ?_
  unfold getV at e
  split at e
  · rename_i x q; cases e; exact q
  · cases e
theorem EnvR.set (h : EnvR K H A env σ) (i : Nat) {d : D} {v : V} (r : Rp K H A d v) : EnvR K H A (env.set i (some d)) (σ.set i (some v)) := by
  refine ⟨by simpa using h.1, fun j e q => ?_⟩
  by_cases hj : i = j
  · subst hj
    rw [List.getElem?_set] at q
    simp only [if_true] at q
    split at q
    · rename_i hl
      cases q
      exact ⟨v, by rw [List.getElem?_set_self (by rw [h.1]; exact hl)], r⟩
    · cases q
  · rw [List.getElem?_set_ne hj] at q
    obtain ⟨w, e1, r1⟩ := h.2 j e q
    exact ⟨w, by rw [List.getElem?_set_ne hj]; exact e1, r1⟩
theorem EnvR.unset (h : EnvR K H A env σ) (i : Nat) {o : Option V} : EnvR K H A (env.set i none) (σ.set i o) := by
  refine ⟨by simpa using h.1, fun j e q => ?_⟩
  by_cases hj : i = j
  · subst hj
    rw [List.getElem?_set] at q
    simp only [if_true] at q
    split at q <;> cases q
  · rw [List.getElem?_set_ne hj] at q
    obtain ⟨w, e1, r1⟩ := h.2 j e q
    exact ⟨w, by rw [List.getElem?_set_ne hj]; exact e1, r1⟩
theorem EnvR.wipe (h : EnvR K H A env σ) : ∀ vs : List Nat, EnvR K H A (wipeE env vs) (wipe σ vs)
  | [] => h
  | v :: vs => (EnvR.wipe h vs).unset v
/-- fewer names known -/
theorem EnvR.less {env' : Nv} (h : EnvR K H A env σ) (hl : env'.length = env.length) (hk : ∀ (i : Nat) (d : D), env'[i]? = some (some d) → env[i]? = some (some d)) : EnvR K H A env' σ :=
  ⟨by rw [hl]; exact h.1, fun i d e => h.2 i d (hk i d e)⟩
end

/-! ### the store -/
def CellR (K : PySem.W.Frag) (H : Hp) (A : Ads) (a : Addr) : Cell → Prop
  | .lst ds => ∃ vs, H a = some (.lst vs) ∧ Rps K H A ds vs
  | .dct kvs => (∃ kv, H a = some (.dK kv) ∧ RpK K H A kvs kv) ∨ ∃ kv, H a = some (.dT kv) ∧ RpT K H A kvs kv
  | .ins c fs => ∃ dx gs, H a = some (.ins (He.ga K c) dx gs) ∧ gs.length = fs.length ∧ ∀ f, match fs.lookup f with
    | some d => ∃ v, gs.lookup f = some v ∧ Rp K H A d v
    | none => gs.lookup f = none
  | .dead => True
def isDead : Cell → Bool
  | .dead => true
  | _ => false
structure SR (K : PySem.W.Frag) (H : Hp) (A : Ads) (S : Store) : Prop where
  len : A.c.length = S.length
  one : ∀ (i j : Nat) (a : Addr), A.c[i]? = some (a, true) → A.c[j]? = some (a, true) → i = j
  at_ : ∀ (k : Nat) (c : Cell) (a : Addr) (b : Bool), S[k]? = some c → A.c[k]? = some (a, b) → b = !isDead c ∧ CellR K H A a c
  mak : ∀ a, a ∈ A.o → (∃ vs, H a = some (.lst vs)) ∧ (a, true) ∉ A.c
section
variable {K : PySem.W.Frag} {H H' : Hp} {A A' : Ads} {S : Store}
theorem SR.cellAt (h : SR K H A S) {a : Addr} (ha : (a, true) ∈ A.c) : (∃ ds, H a = some (.lst ds)) ∨ (∃ kv, H a = some (.dK kv)) ∨ (∃ kv, H a = some (.dT kv)) ∨ ∃ C dx fs, H a = some (.ins C dx fs) := by
  obtain ⟨k, hk⟩ := List.getElem?_of_mem ha
  have hl : k < S.length := by
    have := (List.getElem?_eq_some_iff.mp hk).1
    rw [← h.len]; exact this
  obtain ⟨h1, h2⟩ := h.at_ k S[k] a true (by simp [hl]) hk
  cases e : S[k] with
  | lst ds =>
    rw [e] at h2
    obtain ⟨vs', q, _⟩ := h2
    exact .inl ⟨_, q⟩
  | dct kvs =>
    rw [e] at h2
    rcases h2 with ⟨kv, q, _⟩ | ⟨kv, q, _⟩
    · exact .inr (.inl ⟨_, q⟩)
    · exact .inr (.inr (.inl ⟨_, q⟩))
  | ins c fs =>
    rw [e] at h2
    obtain ⟨dx, gs, q, _⟩ := h2
    exact .inr (.inr (.inr ⟨_, _, _, q⟩))
  | dead =>
    rw [e] at h1
    cases h1
theorem SR.noTup (h : SR K H A S) : NoTup H A := by
  intro a ha vs r
  rcases ha with ha | ha
  · rcases h.cellAt ha with ⟨_, q⟩ | ⟨_, q⟩ | ⟨_, q⟩ | ⟨_, _, _, q⟩ <;> rcases r with r | ⟨o, r⟩ <;> (rw [q] at r; cases r)
  · obtain ⟨⟨_, q⟩, _⟩ := h.mak a ha
    rcases r with r | ⟨o, r⟩ <;> (rw [q] at r; cases r)
theorem SR.live (h : SR K H A S) {a : Addr} (ha : A.live a) : H a ≠ none := by
  rcases ha with ha | ha
  · rcases h.cellAt ha with ⟨_, q⟩ | ⟨_, q⟩ | ⟨_, q⟩ | ⟨_, _, _, q⟩ <;> (rw [q]; exact fun z => nomatch z)
  · obtain ⟨⟨_, q⟩, _⟩ := h.mak a ha
    rw [q]; exact fun z => nomatch z
theorem SR.get (h : SR K H A S) {k : Nat} {c : Cell} (e : S[k]? = some c) (n : isDead c = false) : ∃ a, A.c[k]? = some (a, true) ∧ CellR K H A a c := by
  have hl : k < A.c.length := by rw [h.len]; exact (List.getElem?_eq_some_iff.mp e).1
  obtain ⟨h1, h2⟩ := h.at_ k c A.c[k].1 A.c[k].2 e (by simp [hl])
  rw [n] at h1
  refine ⟨A.c[k].1, ?_, h2⟩
  rw [List.getElem?_eq_getElem hl, ← show A.c[k].2 = true from h1]
theorem CellR.monoE (x : Ex A H A' H') (nt : NoTup H A) {a : Addr} (hH : H' a = H a) : ∀ {c : Cell}, CellR K H A a c → CellR K H' A' a c
  | .lst ds, ⟨vs, h1, h2⟩ => ⟨vs, by rw [hH]; exact h1, h2.monoE x nt⟩
  | .dct kvs, h => by
    rcases h with ⟨kv, h1, h2⟩ | ⟨kv, h1, h2⟩
    · exact .inl ⟨kv, by rw [hH]; exact h1, h2.monoE x nt⟩
    · exact .inr ⟨kv, by rw [hH]; exact h1, h2.monoE x nt⟩
  | .ins c fs, ⟨dx, gs, h1, h2, h3⟩ => by
    refine ⟨dx, gs, by rw [hH]; exact h1, h2, fun f => ?_⟩
    have q := h3 f
    cases e : fs.lookup f with
    | none => rw [e] at q; exact q
    | some d =>
      rw [e] at q
      obtain ⟨v, e1, r⟩ := q
      exact ⟨v, e1, r.monoE x nt⟩
  | .dead, _ => trivial
theorem CellR.mono (x : Ext A H A' H') (nt : NoTup H A) {a : Addr} (hH : H' a = H a) {c : Cell} (h : CellR K H A a c) : CellR K H' A' a c := CellR.monoE x.toEx nt hH h
/-- the heap grows, what may change stays -/
theorem SR.mono (h : SR K H A S) (x : Ext A H A H') (hH : ∀ a, A.live a → H' a = H a) : SR K H' A S := by
  refine ⟨h.len, h.one, fun k c a b e1 e2 => ?_, fun a ha => ?_⟩
  · obtain ⟨h1, h2⟩ := h.at_ k c a b e1 e2
    refine ⟨h1, ?_⟩
    cases hd : isDead c with
    | true => cases c <;> first | trivial | cases hd
    | false =>
      rw [hd] at h1
      subst h1
      exact h2.mono x h.noTup (hH a (.inl (List.mem_of_getElem? e2)))
  · rw [hH a (.inr ha)]
    exact h.mak a ha
/-- a new object that does not change -/
theorem ext_new {p : Addr} {o : HO} (hp : H p = none) (ho : p ∉ A.o) : Ext A H A (upd H p o) where
  rd := fun a u _ r => by
    have : a ≠ p := fun z => rd_ne r (by rw [z]; exact hp)
    rcases r with r | ⟨o', r⟩
    · exact .inl (by rw [upd_ne this]; exact r)
    · exact .inr ⟨o', by rw [upd_ne this]; exact r⟩
  ls := fun a u _ r => by
    have : a ≠ p := fun z => by rw [z, hp] at r; cases r
    rw [upd_ne this]; exact r
  pre := fun _ _ b h => ⟨b, h⟩
  new := fun _ h => .inl h
  own := rfl
  ow := fun a h => upd_ne fun z => ho (by rw [← z]; exact h)
theorem SR.notO (h : SR K H A S) {p : Addr} (hp : H p = none) : p ∉ A.o := fun z => h.live (.inr z) hp
theorem SR.extNew (h : SR K H A S) {p : Addr} {o : HO} (hp : H p = none) : Ext A H A (upd H p o) := ext_new hp (h.notO hp)
theorem SR.new (h : SR K H A S) {p : Addr} {o : HO} (hp : H p = none) : SR K (upd H p o) A S :=
  h.mono (h.extNew hp) fun a ha => upd_ne fun z => h.live ha (by rw [z]; exact hp)
/-- a new cell -/
theorem ext_cell {p : Addr} {o : HO} (hp : H p = none) (ho : p ∉ A.o) : Ext A H (A.add p) (upd H p o) where
  rd := (ext_new hp ho).rd
  ls := (ext_new hp ho).ls
  pre := fun k a b h => ⟨b, by
    show (A.c ++ [(p, true)])[k]? = _
    rw [List.getElem?_append_left (List.getElem?_eq_some_iff.mp h).1]; exact h⟩
  new := fun a h => by
    rcases h with h | h
    · rcases List.mem_append.mp h with h | h
      · exact .inl (.inl h)
      · have e : (a, true) = (p, true) := by simpa using h
        cases e
        exact .inr hp
    · exact .inl (.inr h)
  own := rfl
  ow := (ext_new hp ho).ow
theorem SR.push (h : SR K H A S) {p : Addr} {o : HO} (hp : H p = none) {c : Cell} (hc : isDead c = false) (hr : CellR K (upd H p o) (A.add p) p c) : SR K (upd H p o) (A.add p) (S ++ [c]) := by
  have nt := h.noTup
  have x : Ext A H (A.add p) (upd H p o) := ext_cell hp (h.notO hp)
  have pA : (p, true) ∉ A.c := fun z => h.live (.inl z) hp
  have get_l : ∀ {i : Nat}, i < A.c.length → (A.add p).c[i]? = A.c[i]? := fun hi => List.getElem?_append_left hi
  have get_r : ∀ {i : Nat} {q : Addr × Bool}, ¬ i < A.c.length → (A.add p).c[i]? = some q → i = A.c.length ∧ q = (p, true) := fun {i q} hi h1 => by
    have h1 : (A.c ++ [(p, true)])[i]? = some q := h1
    rw [List.getElem?_append_right (by omega)] at h1
    cases q' : i - A.c.length with
    | zero => rw [q'] at h1; simp at h1; exact ⟨by omega, h1.symm⟩
    | succ n => rw [q'] at h1; simp at h1
  refine ⟨by show (A.c ++ [(p, true)]).length = _; simp [h.len], fun i j a h1 h2 => ?_, fun k d a b e1 e2 => ?_, fun a ha => ?_⟩
  · by_cases hi : i < A.c.length
    · rw [get_l hi] at h1
      by_cases hj : j < A.c.length
      · rw [get_l hj] at h2
        exact h.one i j a h1 h2
      · obtain ⟨_, e⟩ := get_r hj h2
        cases e
        exact absurd (List.mem_of_getElem? h1) pA
    · obtain ⟨hi1, e⟩ := get_r hi h1
      cases e
      by_cases hj : j < A.c.length
      · rw [get_l hj] at h2
        exact absurd (List.mem_of_getElem? h2) pA
      · obtain ⟨hj1, _⟩ := get_r hj h2
        omega
  · by_cases hk : k < S.length
    · rw [List.getElem?_append_left hk] at e1
      rw [get_l (by rw [h.len]; exact hk)] at e2
      obtain ⟨q1, q2⟩ := h.at_ k d a b e1 e2
      refine ⟨q1, ?_⟩
      cases hd : isDead d with
      | true => cases d <;> first | trivial | cases hd
      | false =>
        rw [hd] at q1
        have q1' : b = true := q1
        subst q1'
        refine q2.mono x nt (upd_ne fun z => pA ?_)
        rw [← z]
        exact List.mem_of_getElem? e2
    · rw [List.getElem?_append_right (by omega)] at e1
      obtain ⟨hk1, e⟩ := get_r (by rw [h.len]; exact hk) e2
      cases e
      have : k - S.length = 0 := by rw [hk1, h.len]; omega
      rw [this] at e1
      simp at e1
      subst e1
      exact ⟨by rw [hc]; rfl, hr⟩
  · obtain ⟨⟨vs, h1⟩, h2⟩ := h.mak a ha
    have ne : a ≠ p := fun z => by rw [z, hp] at h1; cases h1
    refine ⟨⟨vs, by rw [upd_ne ne]; exact h1⟩, fun z => ?_⟩
    rcases List.mem_append.mp z with z | z
    · exact h2 z
    · have e : (a, true) = (p, true) := by simpa using z
      exact ne (congrArg Prod.fst e)
/-- a cell is changed -/
theorem ext_upd {k : Nat} {a : Addr} {o : HO} (hk : A.c[k]? = some (a, true)) (ha : a ∉ A.o) : Ext A H A (upd H a o) where
  rd := fun b u n r => by
    have : b ≠ a := fun z => n (.inl (by rw [z]; exact List.mem_of_getElem? hk))
    rcases r with r | ⟨o', r⟩
    · exact .inl (by rw [upd_ne this]; exact r)
    · exact .inr ⟨o', by rw [upd_ne this]; exact r⟩
  ls := fun b u n r => by
    have : b ≠ a := fun z => n (.inl (by rw [z]; exact List.mem_of_getElem? hk))
    rw [upd_ne this]; exact r
  pre := fun _ _ b h => ⟨b, h⟩
  new := fun _ h => .inl h
  own := rfl
  ow := fun b h => upd_ne fun z => ha (by rw [← z]; exact h)
theorem SR.cNotO (h : SR K H A S) {k : Nat} {a : Addr} (hk : A.c[k]? = some (a, true)) : a ∉ A.o := fun z => (h.mak a z).2 (List.mem_of_getElem? hk)
theorem SR.extUpd (h : SR K H A S) {k : Nat} {a : Addr} {o : HO} (hk : A.c[k]? = some (a, true)) : Ext A H A (upd H a o) := ext_upd hk (h.cNotO hk)
theorem SR.set (h : SR K H A S) {k : Nat} {a : Addr} {o : HO} (hk : A.c[k]? = some (a, true)) {c : Cell} (hc : isDead c = false) (hr : CellR K (upd H a o) A a c) : SR K (upd H a o) A (S.set k c) := by
  have nt := h.noTup
  refine ⟨by simp [h.len], h.one, fun j d b t e1 e2 => ?_, fun b hb => ?_⟩
  · by_cases hj : k = j
    · subst hj
      rw [hk] at e2
      cases e2
      rw [List.getElem?_set] at e1
      simp only [if_true] at e1
      split at e1
      · cases e1
        exact ⟨by rw [hc]; rfl, hr⟩
      · cases e1
    · rw [List.getElem?_set_ne hj] at e1
      obtain ⟨q1, q2⟩ := h.at_ j d b t e1 e2
      refine ⟨q1, ?_⟩
      cases hd : isDead d with
      | true => cases d <;> first | trivial | cases hd
      | false =>
        rw [hd] at q1
        have q1' : t = true := q1
        subst q1'
        refine q2.mono (h.extUpd hk) nt (upd_ne fun z => ?_)
        subst z
        exact hj (h.one _ _ _ hk e2)
  · rw [upd_ne fun z => h.cNotO hk (by rw [← z]; exact hb)]
    exact h.mak b hb

/-! ### a list that is being made -/
theorem live_push {p a : Addr} : (A.push p).live a ↔ A.live a ∨ a = p := by
  unfold Ads.live Ads.push
  simp only [List.mem_cons]
  constructor
  · rintro (h | h | h)
    · exact .inl (.inl h)
    · exact .inr h
    · exact .inl (.inr h)
  · rintro ((h | h) | h)
    · exact .inl h
    · exact .inr (.inr h)
    · exact .inr (.inl h)
mutual
/-- fewer may change -/
theorem Rp.less (hc : A'.c = A.c) (hl : ∀ a, A'.live a → A.live a) : ∀ (d : D) (v : V), Rp K H A d v → Rp K H A' d v
  | .non, _, h => h
  | .bl _, _, h => h
  | .int _, _, h => h
  | .str _, _, h => h
  | .tup ds, v, h => by
    unfold Rp at h ⊢
    obtain ⟨a, vs, e, s, r⟩ := h
    exact ⟨a, vs, e, s, Rps.less hc hl ds vs r⟩
  | .lst ds, v, h => by
    unfold Rp at h ⊢
    obtain ⟨a, vs, e, s, n, r⟩ := h
    exact ⟨a, vs, e, s, fun z => n (hl a z), Rps.less hc hl ds vs r⟩
  | .dct kvs, v, h => by
    unfold Rp at h ⊢
    obtain ⟨a, e, n, s⟩ := h
    refine ⟨a, e, fun z => n (hl a z), ?_⟩
    rcases s with ⟨kv, s, r⟩ | ⟨kv, s, r⟩
    · exact .inl ⟨kv, s, RpK.less hc hl kvs kv r⟩
    · exact .inr ⟨kv, s, RpT.less hc hl kvs kv r⟩
  | .ref k, v, h => by
    unfold Rp at h ⊢
    rw [hc]
    exact h
  | .exc _, _, h => by unfold Rp at h; exact h.elim
  | .scr ns, v, h => by
    unfold Rp at h ⊢
    obtain ⟨a, e, s⟩ := h
    refine ⟨a, e, ?_⟩
    rcases s with ⟨s, n⟩ | s
    · exact .inl ⟨s, fun z => n (hl a z)⟩
    · exact .inr s
theorem Rps.less (hc : A'.c = A.c) (hl : ∀ a, A'.live a → A.live a) : ∀ (ds : List D) (vs : List V), Rps K H A ds vs → Rps K H A' ds vs
  | [], _, h => h
  | d :: ds, vs, h => by
    unfold Rps at h ⊢
    obtain ⟨v, r, e, h1, h2⟩ := h
    exact ⟨v, r, e, Rp.less hc hl d v h1, Rps.less hc hl ds r h2⟩
theorem RpK.less (hc : A'.c = A.c) (hl : ∀ a, A'.live a → A.live a) : ∀ (ds : List (D × D)) (vs : List (Key × V)), RpK K H A ds vs → RpK K H A' ds vs
  | [], _, h => h
  | (k, d) :: ds, vs, h => by
    unfold RpK at h ⊢
    obtain ⟨q, v, r, e, h0, h1, h2⟩ := h
    exact ⟨q, v, r, e, h0, Rp.less hc hl d v h1, RpK.less hc hl ds r h2⟩
theorem RpT.less (hc : A'.c = A.c) (hl : ∀ a, A'.live a → A.live a) : ∀ (ds : List (D × D)) (vs : List (List Key × V)), RpT K H A ds vs → RpT K H A' ds vs
  | [], _, h => h
  | (k, d) :: ds, vs, h => by
    unfold RpT at h ⊢
    obtain ⟨q, v, r, e, h0, h1, h2⟩ := h
    exact ⟨q, v, r, e, h0, Rp.less hc hl d v h1, RpT.less hc hl ds r h2⟩
end
mutual
/-- one more may change, of which nothing is known yet -/
theorem Rp.more {p : Addr} (hp : ∀ u, ¬ Rd H p u) : ∀ (d : D) (v : V), Rp K H A d v → Rp K H (A.push p) d v
  | .non, _, h => h
  | .bl _, _, h => h
  | .int _, _, h => h
  | .str _, _, h => h
  | .tup ds, v, h => by
    unfold Rp at h ⊢
    obtain ⟨a, vs, e, s, r⟩ := h
    exact ⟨a, vs, e, s, Rps.more hp ds vs r⟩
  | .lst ds, v, h => by
    unfold Rp at h ⊢
    obtain ⟨a, vs, e, s, n, r⟩ := h
    refine ⟨a, vs, e, s, fun z => ?_, Rps.more hp ds vs r⟩
    rcases live_push.mp z with z | z
    · exact n z
    · exact hp _ (.inl (by rw [← z]; exact s))
  | .dct kvs, v, h => by
    unfold Rp at h ⊢
    obtain ⟨a, e, n, s⟩ := h
    refine ⟨a, e, fun z => ?_, ?_⟩
    · rcases live_push.mp z with z | z
      · exact n z
      · subst z
        rcases s with ⟨_, s, _⟩ | ⟨_, s, _⟩ <;> exact hp _ s
    · rcases s with ⟨kv, s, r⟩ | ⟨kv, s, r⟩
      · exact .inl ⟨kv, s, RpK.more hp kvs kv r⟩
      · exact .inr ⟨kv, s, RpT.more hp kvs kv r⟩
  | .ref k, v, h => by
    unfold Rp at h ⊢
    exact h
  | .exc _, _, h => by unfold Rp at h; exact h.elim
  | .scr ns, v, h => by
    unfold Rp at h ⊢
    obtain ⟨a, e, s⟩ := h
    refine ⟨a, e, ?_⟩
    rcases s with ⟨s, n⟩ | s
    · refine .inl ⟨s, fun z => ?_⟩
      rcases live_push.mp z with z | z
      · exact n z
      · subst z; exact hp _ s
    · exact .inr s
theorem Rps.more {p : Addr} (hp : ∀ u, ¬ Rd H p u) : ∀ (ds : List D) (vs : List V), Rps K H A ds vs → Rps K H (A.push p) ds vs
  | [], _, h => h
  | d :: ds, vs, h => by
    unfold Rps at h ⊢
    obtain ⟨v, r, e, h1, h2⟩ := h
    exact ⟨v, r, e, Rp.more hp d v h1, Rps.more hp ds r h2⟩
theorem RpK.more {p : Addr} (hp : ∀ u, ¬ Rd H p u) : ∀ (ds : List (D × D)) (vs : List (Key × V)), RpK K H A ds vs → RpK K H (A.push p) ds vs
  | [], _, h => h
  | (k, d) :: ds, vs, h => by
    unfold RpK at h ⊢
    obtain ⟨q, v, r, e, h0, h1, h2⟩ := h
    exact ⟨q, v, r, e, h0, Rp.more hp d v h1, RpK.more hp ds r h2⟩
theorem RpT.more {p : Addr} (hp : ∀ u, ¬ Rd H p u) : ∀ (ds : List (D × D)) (vs : List (List Key × V)), RpT K H A ds vs → RpT K H (A.push p) ds vs
  | [], _, h => h
  | (k, d) :: ds, vs, h => by
    unfold RpT at h ⊢
    obtain ⟨q, v, r, e, h0, h1, h2⟩ := h
    exact ⟨q, v, r, e, h0, Rp.more hp d v h1, RpT.more hp ds r h2⟩
end
theorem CellR.less (hc : A'.c = A.c) (hl : ∀ a, A'.live a → A.live a) {a : Addr} : ∀ {c : Cell}, CellR K H A a c → CellR K H A' a c
  | .lst ds, ⟨vs, h1, h2⟩ => ⟨vs, h1, h2.less hc hl⟩
  | .dct kvs, h => by
    rcases h with ⟨kv, h1, h2⟩ | ⟨kv, h1, h2⟩
    · exact .inl ⟨kv, h1, h2.less hc hl⟩
    · exact .inr ⟨kv, h1, h2.less hc hl⟩
  | .ins c fs, ⟨dx, gs, h1, h2, h3⟩ => by
    refine ⟨dx, gs, h1, h2, fun f => ?_⟩
    have q := h3 f
    cases e : fs.lookup f with
    | none => rw [e] at q; exact q
    | some d =>
      rw [e] at q
      obtain ⟨v, e1, r⟩ := q
      exact ⟨v, e1, r.less hc hl⟩
  | .dead, _ => trivial
theorem CellR.more {p : Addr} (hp : ∀ u, ¬ Rd H p u) {a : Addr} : ∀ {c : Cell}, CellR K H A a c → CellR K H (A.push p) a c
  | .lst ds, ⟨vs, h1, h2⟩ => ⟨vs, h1, h2.more hp⟩
  | .dct kvs, h => by
    rcases h with ⟨kv, h1, h2⟩ | ⟨kv, h1, h2⟩
    · exact .inl ⟨kv, h1, h2.more hp⟩
    · exact .inr ⟨kv, h1, h2.more hp⟩
  | .ins c fs, ⟨dx, gs, h1, h2, h3⟩ => by
    refine ⟨dx, gs, h1, h2, fun f => ?_⟩
    have q := h3 f
    cases e : fs.lookup f with
    | none => rw [e] at q; exact q
    | some d =>
      rw [e] at q
      obtain ⟨v, e1, r⟩ := q
      exact ⟨v, e1, r.more hp⟩
  | .dead, _ => trivial
theorem EnvR.more {env : Nv} {σ : L2.St} {p : Addr} (hp : ∀ u, ¬ Rd H p u) (h : EnvR K H A env σ) : EnvR K H (A.push p) env σ :=
  ⟨h.1, fun i d e => let ⟨v, e1, r⟩ := h.2 i d e; ⟨v, e1, r.more hp⟩⟩
/-- a list that is being made is changed -/
theorem exD_upd {p : Addr} {vs : List V} (hp : p ∈ A.o) : ExtD p A H A (upd H p (.lst vs)) where
  rd := fun a u n r => by
    have : a ≠ p := fun z => n (.inr (by rw [z]; exact hp))
    rcases r with r | ⟨o', r⟩
    · exact .inl (by rw [upd_ne this]; exact r)
    · exact .inr ⟨o', by rw [upd_ne this]; exact r⟩
  ls := fun a u n r => by
    have : a ≠ p := fun z => n (.inr (by rw [z]; exact hp))
    rw [upd_ne this]; exact r
  pre := fun _ _ b h => ⟨b, h⟩
  new := fun _ h => .inl h
  own := rfl
  ow := fun a _ n => upd_ne n
theorem SR.upO (h : SR K H A S) {p : Addr} {vs : List V} (hp : p ∈ A.o) : SR K (upd H p (.lst vs)) A S := by
  refine ⟨h.len, h.one, fun k c a b e1 e2 => ?_, fun a ha => ?_⟩
  · obtain ⟨h1, h2⟩ := h.at_ k c a b e1 e2
    refine ⟨h1, ?_⟩
    cases hd : isDead c with
    | true => cases c <;> first | trivial | cases hd
    | false =>
      rw [hd] at h1
      subst h1
      have hne : a ≠ p := fun z => (h.mak p hp).2 (by rw [← z]; exact List.mem_of_getElem? e2)
      exact h2.monoE (exD_upd hp).toEx h.noTup (upd_ne hne)
  · obtain ⟨⟨us, h1⟩, h2⟩ := h.mak a ha
    by_cases e : a = p
    · subst e
      exact ⟨⟨vs, upd_same⟩, h2⟩
    · exact ⟨⟨us, by rw [upd_ne e]; exact h1⟩, h2⟩
/-- a new list is being made -/
theorem SR.mkO (h : SR K H A S) {p : Addr} {vs : List V} (hp : H p = none) : SR K (upd H p (.lst vs)) (A.push p) S := by
  have hr : ∀ u, ¬ Rd H p u := fun u r => rd_ne r hp
  have pA : (p, true) ∉ A.c := fun z => h.live (.inl z) hp
  have s1 := h.new (o := .lst vs) hp
  refine ⟨h.len, h.one, fun k c a b e1 e2 => ?_, fun a ha => ?_⟩
  · obtain ⟨h1, h2⟩ := h.at_ k c a b e1 e2
    refine ⟨h1, ?_⟩
    cases hd : isDead c with
    | true => cases c <;> first | trivial | cases hd
    | false =>
      rw [hd] at h1
      subst h1
      have hne : a ≠ p := fun z => pA (by rw [← z]; exact List.mem_of_getElem? e2)
      have nt : NoTup H (A.push p) := fun b hb vs r => by
        rcases live_push.mp hb with z | z
        · exact h.noTup b z vs r
        · exact hr _ (by rw [← z]; exact r)
      exact (h2.more hr).monoE (exD_upd (A := A.push p) List.mem_cons_self).toEx nt (upd_ne hne)
  · rcases List.mem_cons.mp ha with e | ha
    · subst e
      exact ⟨⟨vs, upd_same⟩, pA⟩
    · obtain ⟨⟨us, h1⟩, h2⟩ := h.mak a ha
      exact ⟨⟨us, by rw [upd_ne fun z => by rw [z, hp] at h1; cases h1]; exact h1⟩, h2⟩
theorem EnvR.mkO {env : Nv} {σ : L2.St} {p : Addr} {vs : List V} (h : EnvR K H A env σ) (s : SR K H A S) (hp : H p = none) : EnvR K (upd H p (.lst vs)) (A.push p) env σ := by
  have hr : ∀ u, ¬ Rd H p u := fun u r => rd_ne r hp
  have nt : NoTup H (A.push p) := fun b hb vs r => by
    rcases live_push.mp hb with z | z
    · exact s.noTup b z vs r
    · exact hr _ (by rw [← z]; exact r)
  exact (h.more hr).monoE (exD_upd (A := A.push p) List.mem_cons_self).toEx nt
theorem Rps.mkO {p : Addr} {us vs : List V} {ds : List D} (h : Rps K H A ds us) (s : SR K H A S) (hp : H p = none) : Rps K (upd H p (.lst vs)) (A.push p) ds us := by
  have hr : ∀ u, ¬ Rd H p u := fun u r => rd_ne r hp
  have nt : NoTup H (A.push p) := fun b hb vs r => by
    rcases live_push.mp hb with z | z
    · exact s.noTup b z vs r
    · exact hr _ (by rw [← z]; exact r)
  exact (h.more hr).monoE (exD_upd (A := A.push p) List.mem_cons_self).toEx nt
/-- it is made -/
def Ads.pop (A : Ads) : Ads := { A with o := A.o.tail }
theorem SR.pop {p : Addr} {o : List Addr} (h : SR K H A S) (ho : A.o = p :: o) : SR K H A.pop S := by
  have hl : ∀ a, A.pop.live a → A.live a := fun a ha => by
    rcases ha with ha | ha
    · exact .inl ha
    · exact .inr (List.mem_of_mem_tail ha)
  exact ⟨h.len, h.one, fun k c a b e1 e2 => ⟨(h.at_ k c a b e1 e2).1, CellR.less (A := A) (A' := A.pop) rfl hl (h.at_ k c a b e1 e2).2⟩, fun a ha => h.mak a (List.mem_of_mem_tail ha)⟩
theorem pop_ext {A1 : Ads} {H1 : Hp} {p : Addr} {vs : List V} (s0 : SR K H A S) (hp : H p = none) (x : ExtD p (A.push p) (upd H p (.lst vs)) A1 H1) {S1 : Store} (s1 : SR K H1 A1 S1) : Ext A H A1.pop H1 ∧ ¬ A1.pop.live p := by
  have ho : A1.o = p :: A.o := x.own
  have np : ¬ A1.pop.live p := fun ha => by
    rcases ha with ha | ha
    · exact (s1.mak p (by rw [ho]; exact List.mem_cons_self)).2 ha
    · have : p ∈ A.o := by
        have e : A1.pop.o = A.o := by show A1.o.tail = _; rw [ho]; rfl
        rw [e] at ha; exact ha
      exact s0.live (.inr this) hp
  refine ⟨⟨⟨fun a u n r => ?_, fun a u n r => ?_, fun k a b h => x.pre k a b h, fun a h => ?_⟩, ?_, fun a h => ?_⟩, np⟩
  · have ne : a ≠ p := fun z => rd_ne r (by rw [z]; exact hp)
    refine x.rd a u (fun z => ?_) ?_
    · rcases live_push.mp z with z | z
      · exact n z
      · exact ne z
    · rcases r with r | ⟨o', r⟩
      · exact .inl (by rw [upd_ne ne]; exact r)
      · exact .inr ⟨o', by rw [upd_ne ne]; exact r⟩
  · have ne : a ≠ p := fun z => by rw [z, hp] at r; cases r
    refine x.ls a u (fun z => ?_) (by rw [upd_ne ne]; exact r)
    rcases live_push.mp z with z | z
    · exact n z
    · exact ne z
  · have ne : a ≠ p := fun z => np (by rw [← z]; exact h)
    have h1 : A1.live a := by
      rcases h with h | h
      · exact .inl h
      · exact .inr (List.mem_of_mem_tail h)
    rcases x.new a h1 with q | q
    · rcases live_push.mp q with q | q
      · exact .inl q
      · exact absurd q ne
    · rw [upd_ne ne] at q
      exact .inr q
  · show A1.o.tail = A.o
    rw [ho]; rfl
  · have ne : a ≠ p := fun z => s0.live (.inr h) (by rw [z]; exact hp)
    rw [x.ow a (List.mem_cons_of_mem _ h) ne, upd_ne ne]
end
end Rs
end

section
set_option Elab.async false
set_option linter.all false
set_option maxRecDepth 100000
set_option maxHeartbeats 1000000
set_option autoImplicit false
/-! RsOps: operations by values, over data. Own work. -/
namespace Rs
open PySem PySem.Spec PyProof.Rows L2

/-- what a value d is to come to -/
def Out (K : PySem.W.Frag) (A : Ads) (H : Hp) (S : Store) (d : D) (Q : VK) : Prop :=
  ∀ v H' A', Ext A H A' H' → SR K H' A' S → Rp K H' A' d v → Q v H'
section
variable {K : PySem.W.Frag} {A A' : Ads} {H H' : Hp} {S : Store} {Q : VK}
theorem Out.here {d : D} {v : V} (h : Out K A H S d Q) (s : SR K H A S) (r : Rp K H A d v) : Q v H := h v H A (Ext.refl A H) s r
theorem Out.mono {d : D} (h : Out K A H S d Q) (x : Ext A H A' H') : Out K A' H' S d Q := fun v H2 A2 y s r => h v H2 A2 (x.trans y) s r
theorem Out.imp {d : D} {Q' : VK} (h : Out K A H S d Q) (k : ∀ v H', Q v H' → Q' v H') : Out K A H S d Q' := fun v H2 A2 y s r => k _ _ (h v H2 A2 y s r)
theorem rp_tup {a : Addr} {vs : List V} {ds : List D} (h : SqT K H a vs) (r : Rps K H A ds vs) : Rp K H A (.tup ds) (.ref a) := by
  unfold Rp; exact ⟨a, vs, rfl, h, r⟩
theorem rp_lst {a : Addr} {vs : List V} {ds : List D} (h : H a = some (.lst vs)) (n : ¬ A.live a) (r : Rps K H A ds vs) : Rp K H A (.lst ds) (.ref a) := by
  unfold Rp; exact ⟨a, vs, rfl, h, n, r⟩
theorem rp_int {i : Int} : Rp K H A (.int i) (.int i) := by unfold Rp; rfl
theorem rp_bl {b : Bool} : Rp K H A (.bl b) (.bl b) := by unfold Rp; rfl
theorem rp_str {x : Str} : Rp K H A (.str x) (.str x) := by unfold Rp; rfl
theorem rp_non : Rp K H A .non .non := by unfold Rp; rfl
theorem Rp.int {i : Int} {v : V} (h : Rp K H A (.int i) v) : v = .int i := by unfold Rp at h; exact h
theorem Rp.bl {b : Bool} {v : V} (h : Rp K H A (.bl b) v) : v = .bl b := by unfold Rp at h; exact h
theorem Rp.str {x : Str} {v : V} (h : Rp K H A (.str x) v) : v = .str x := by unfold Rp at h; exact h
theorem Rp.non {v : V} (h : Rp K H A .non v) : v = .non := by unfold Rp at h; exact h
theorem Rp.tup {ds : List D} {v : V} (h : Rp K H A (.tup ds) v) : ∃ a vs, v = .ref a ∧ SqT K H a vs ∧ Rps K H A ds vs := by unfold Rp at h; exact h
theorem Rp.lst {ds : List D} {v : V} (h : Rp K H A (.lst ds) v) : ∃ a vs, v = .ref a ∧ H a = some (.lst vs) ∧ ¬ A.live a ∧ Rps K H A ds vs := by unfold Rp at h; exact h
theorem Rp.ref {k : Nat} {v : V} (h : Rp K H A (.ref k) v) : ∃ a b, A.c[k]? = some (a, b) ∧ v = .ref a := by unfold Rp at h; exact h
theorem Rp.scr {ns : List Int} {v : V} (h : Rp K H A (.scr ns) v) : ∃ a, v = .ref a ∧ SqL K H a (ns.map V.int) := by
  unfold Rp at h
  obtain ⟨a, e, h⟩ := h
  refine ⟨a, e, ?_⟩
  rcases h with ⟨h, _⟩ | h
  · exact .inl h
  · exact h H
/-- a new tuple, a new list -/
theorem Out.tupN {ds : List D} {vs : List V} (h : Out K A H S (.tup ds) Q) (s : SR K H A S) (r : Rps K H A ds vs) {p : Addr} (hp : H p = none) : Q (.ref p) (upd H p (.tup vs)) :=
  h _ _ A (s.extNew hp) (s.new hp) (rp_tup (.inl (.inl upd_same)) (r.mono (s.extNew hp) s.noTup))
theorem Out.lstN {ds : List D} {vs : List V} (h : Out K A H S (.lst ds) Q) (s : SR K H A S) (r : Rps K H A ds vs) {p : Addr} (hp : H p = none) : Q (.ref p) (upd H p (.lst vs)) :=
  h _ _ A (s.extNew hp) (s.new hp) (rp_lst upd_same (fun z => s.live z hp) (r.mono (s.extNew hp) s.noTup))
/-- a list read at the top -/
theorem view_lst {d : D} {v : V} {xs : List D} (s : SR K H A S) (r : Rp K H A d v) (e : view S d = .lst xs) : ∃ a vs, v = .ref a ∧ H a = some (.lst vs) ∧ Rps K H A xs vs := by
  unfold view at e
  split at e
  · rename_i k
    split at e
    · rename_i q hq
      cases e
      obtain ⟨a, b, h1, h2⟩ := r.ref
      obtain ⟨a', h3, h4⟩ := s.get hq rfl
      rw [h1] at h3
      cases h3
      obtain ⟨vs, h5, h6⟩ := h4
      exact ⟨a, vs, h2, h5, h6⟩
    · cases e
  · rename_i d'
    subst e
    obtain ⟨a, vs, h1, h2, _, h3⟩ := r.lst
    exact ⟨a, vs, h1, h2, h3⟩
theorem view_tup {d : D} {xs : List D} (e : view S d = .tup xs) : d = .tup xs := by
  unfold view at e
  split at e
  · split at e <;> cases e
  · exact e
theorem view_scr {d : D} {ns : List Int} (e : view S d = .scr ns) : d = .scr ns := by
  unfold view at e
  split at e
  · split at e <;> cases e
  · exact e
theorem rps_ints : ∀ (ns : List Int), Rps K H A (ns.map D.int) (ns.map V.int)
  | [] => Rps.nil
  | n :: ns => .cons rp_int (rps_ints ns)
theorem seq_of {d : D} {v : V} {xs : List D} (s : SR K H A S) (r : Rp K H A d v) (e : seqOf S d = some xs) : ∃ a vs, v = .ref a ∧ (SqL K H a vs ∨ SqT K H a vs) ∧ Rps K H A xs vs := by
  unfold seqOf at e
  split at e
  · rename_i ys h
    cases e
    have h' := view_tup h
    subst h'
    obtain ⟨a, vs, h1, h2, h3⟩ := r.tup
    exact ⟨a, vs, h1, .inr h2, h3⟩
  · rename_i ys h
    cases e
    obtain ⟨a, vs, h1, h2, h3⟩ := view_lst s r h
    exact ⟨a, vs, h1, .inl (SqL.of h2), h3⟩
  · rename_i ns h
    cases e
    have h' := view_scr h
    subst h'
    obtain ⟨a, h1, h2⟩ := r.scr
    exact ⟨a, _, h1, .inl h2, rps_ints ns⟩
  · cases e
theorem lim_size {n : Nat} (h : n ≤ LIM) : n ≤ sizeLine := Nat.le_trans h (by decide)
end

/-! ### two-place operations -/
def rOp (K : PySem.W.Frag) (f : Store → D → D → Option D) : R2 := fun x y H Q => ∃ A S d e z, SR K H A S ∧ Rp K H A d x ∧ Rp K H A e y ∧ f S d e = some z ∧ Out K A H S z Q
theorem OpR.imp {X : Cx} {f : Value → Value → Sem Value} {r r' : R2} (h : OpR X f r) (k : ∀ x y H Q, r' x y H Q → r x y H Q) : OpR X f r' :=
  fun pins s σ H x y v u Q I rx ry q => h pins s σ H x y v u Q I rx ry (k x y H Q q)
/-- one of several rules, by the case at hand -/
theorem OpR.by {X : Cx} {f : Value → Value → Sem Value} {r : R2} (h : ∀ x y H Q, r x y H Q → ∃ r' : R2, OpR X f r' ∧ r' x y H Q) : OpR X f r :=
  fun pins s σ H x y v u Q I rx ry q => let ⟨_, h1, h2⟩ := h x y H Q q; h1 pins s σ H x y v u Q I rx ry h2
section
variable {X : Cx}
theorem op_addD : OpR X (binaryOp .Add) (rOp X.K addD) := OpR.by fun x y H Q ⟨A, S, d, e, z, s, rx, ry, hf, ho⟩ => by
  unfold addD at hf
  split at hf
  · cases hf
    rw [rx.int, ry.int]
    exact ⟨_, op_add, _, _, rfl, rfl, ho.here s rp_int⟩
  · split at hf
    · rename_i hl
      cases hf
      rw [rx.str, ry.str]
      exact ⟨_, op_add_str, _, _, rfl, rfl, lim_size hl, ho.here s rp_str⟩
    · cases hf
  · split at hf
    · rename_i xs ys hl
      cases hf
      obtain ⟨a, vs, rfl, h1, h2⟩ := rx.tup
      obtain ⟨b, us, rfl, h3, h4⟩ := ry.tup
      refine ⟨_, op_catA, a, b, vs, us, rfl, rfl, h1, h3, by rw [← h2.length, ← h4.length]; exact lim_size hl, fun e => ?_, fun _ e => ?_, fun _ _ p hp => ho.tupN s (h2.append h4) hp⟩
      · have : xs = [] := by have := h2.length; rw [e] at this; exact List.length_eq_zero_iff.mp this
        subst this
        exact ho.here s (rp_tup h3 h4)
      · have : ys = [] := by have := h4.length; rw [e] at this; exact List.length_eq_zero_iff.mp this
        subst this
        rw [List.append_nil] at ho
        exact ho.here s (rp_tup h1 h2)
    · cases hf
  · split at hf
    · rename_i xs ys e1 e2
      split at hf
      · rename_i hl
        cases hf
        obtain ⟨a, vs, rfl, h1, h2⟩ := view_lst s rx e1
        obtain ⟨b, us, rfl, h3, h4⟩ := view_lst s ry e2
        exact ⟨_, op_cat, a, b, vs, us, rfl, rfl, h1, h3, by rw [← h2.length, ← h4.length]; exact lim_size hl, fun p hp => ho.lstN s (h2.append h4) hp⟩
      · cases hf
    · cases hf
theorem op_subD : OpR X (binaryOp .Sub) (rOp X.K fun _ => subD) := OpR.by fun x y H Q ⟨A, S, d, e, z, s, rx, ry, hf, ho⟩ => by
  have hf : subD d e = some z := hf
  unfold subD at hf
  split at hf
  · cases hf
    rw [rx.int, ry.int]
    exact ⟨_, op_sub, _, _, rfl, rfl, ho.here s rp_int⟩
  · cases hf
theorem big_eq : (2 : Int) ^ 64 = BIG := by decide
theorem op_mulD : OpR X (binaryOp .Mult) (rOp X.K mulD) := OpR.by fun x y H Q ⟨A, S, d, e, z, s, rx, ry, hf, ho⟩ => by
  unfold mulD at hf
  split at hf
  · split at hf
    · rename_i hm
      cases hf
      rw [rx.int, ry.int]
      refine ⟨_, op_mul, _, _, rfl, rfl, ?_, ho.here s rp_int⟩
      unfold mulOk at hm
      simp only [Bool.or_eq_true, Bool.and_eq_true, decide_eq_true_eq] at hm
      unfold CMul
      rw [big_eq]
      exact hm
    · cases hf
  · split at hf
    · rename_i k _ _ xs e1
      split at hf
      · rename_i hl
        cases hf
        simp only [Bool.and_eq_true, decide_eq_true_eq] at hl
        obtain ⟨⟨h0, hk⟩, hx⟩ := hl
        obtain ⟨a, vs, rfl, h1, h2⟩ := view_lst s rx e1
        rw [ry.int]
        refine ⟨_, op_rep, a, k, vs, rfl, rfl, h1, by omega, by omega, ?_, fun p hp => ho.lstN s (h2.flat _) hp⟩
        rw [← h2.length, sizeLine_eq]
        have : k.toNat ≤ 1000 := by omega
        exact Nat.le_trans (Nat.mul_le_mul hx this) (by decide)
      · cases hf
    · cases hf
  · cases hf
theorem op_fdivD : OpR X (binaryOp .FloorDiv) (rOp X.K fun _ => fdivD) := OpR.by fun x y H Q ⟨A, S, d, e, z, s, rx, ry, hf, ho⟩ => by
  have hf : fdivD d e = some z := hf
  unfold fdivD at hf
  split at hf
  · split at hf
    · rename_i hm
      cases hf
      rw [rx.int, ry.int]
      simp only [Bool.and_eq_true, decide_eq_true_eq] at hm
      exact ⟨_, op_fdiv, _, _, rfl, rfl, hm, ho.here s rp_int⟩
    · cases hf
  · cases hf
theorem op_modD : OpR X (binaryOp .Mod) (rOp X.K fun _ => modD) := OpR.by fun x y H Q ⟨A, S, d, e, z, s, rx, ry, hf, ho⟩ => by
  have hf : modD d e = some z := hf
  unfold modD at hf
  split at hf
  · split at hf
    · rename_i hm
      cases hf
      rw [rx.int, ry.int]
      exact ⟨_, op_mod, _, _, rfl, rfl, hm, ho.here s rp_int⟩
    · cases hf
  · cases hf
theorem op_powD : OpR X (binaryOp .Pow) (rOp X.K fun _ => powD) := OpR.by fun x y H Q ⟨A, S, d, e, z, s, rx, ry, hf, ho⟩ => by
  have hf : powD d e = some z := hf
  unfold powD at hf
  split at hf
  · split at hf
    · rename_i hm
      cases hf
      rw [rx.int, ry.int]
      simp only [Bool.and_eq_true, decide_eq_true_eq] at hm
      obtain ⟨⟨h0, h1⟩, h2, h3⟩ := hm
      refine ⟨_, op_pow, _, _, rfl, rfl, ⟨h0, by omega, ?_⟩, ho.here s rp_int⟩
      unfold BIG at h2 h3
      have e : (2 : Nat) ^ 64 = 18446744073709551616 := by decide
      rw [e]
      omega
    · cases hf
  · cases hf
def opOf : Bop → Operator
  | .add => .Add
  | .sub => .Sub
  | .mul => .Mult
  | .fdiv => .FloorDiv
  | .mod => .Mod
  | .pow => .Pow
theorem op_bops : ∀ o : Bop, OpR X (binaryOp (opOf o)) (rOp X.K fun S => bops S o)
  | .add => op_addD
  | .sub => op_subD
  | .mul => op_mulD
  | .fdiv => op_fdivD
  | .mod => op_modD
  | .pow => op_powD
end

/-! ### == -/
mutual
theorem eqv_py : ∀ (d e : D) (n m : Nat), shd n d = true → shd m e = true → eqv d e = PyData.eqv (toPy d) (toPy e)
  | .non, e, n, m, _, h => by cases e <;> first | rfl | (cases m <;> cases h)
  | .bl _, e, n, m, _, h => by cases e <;> first | rfl | (cases m <;> cases h)
  | .int _, e, n, m, _, h => by cases e <;> first | rfl | (cases m <;> cases h)
  | .str _, e, n, m, _, h => by cases e <;> first | rfl | (cases m <;> cases h)
  | .tup xs, e, n, m, h, h' => by
    cases n with
    | zero => cases h
    | succ n => cases e <;> first | rfl | (cases m <;> first | (cases h'; done) | exact eqvs_py xs _ n _ h h')
  | .lst xs, e, n, m, h, h' => by
    cases n with
    | zero => cases h
    | succ n => cases e <;> first | rfl | (cases m <;> first | (cases h'; done) | exact eqvs_py xs _ n _ h h')
  | .dct _, _, n, _, h, _ => by cases n <;> cases h
  | .ref _, _, n, _, h, _ => by cases n <;> cases h
  | .exc _, _, n, _, h, _ => by cases n <;> cases h
  | .scr _, _, n, _, h, _ => by cases n <;> cases h
theorem eqvs_py : ∀ (xs ys : List D) (n m : Nat), xs.all (shd n) = true → ys.all (shd m) = true → eqvs xs ys = PyData.eqvAll (toPys xs) (toPys ys)
  | [], ys, _, _, _, _ => by cases ys <;> rfl
  | x :: xs, [], _, _, _, _ => rfl
  | x :: xs, y :: ys, n, m, h, h' => by
    rw [List.all_cons, Bool.and_eq_true] at h h'
    unfold eqvs toPys PyData.eqvAll
    rw [eqv_py x y n m h.1 h'.1, eqvs_py xs ys n m h.2 h'.2]
end
mutual
theorem lay_py : ∀ (d : D) (n : Nat), shd n d = true → (toPy d).canLay0 = true ∧ (toPy d).depth ≤ n
  | .non, _, _ => ⟨rfl, Nat.zero_le _⟩
  | .bl _, _, _ => ⟨rfl, Nat.zero_le _⟩
  | .int _, _, _ => ⟨rfl, Nat.zero_le _⟩
  | .str x, n, h => by
    refine ⟨?_, Nat.zero_le _⟩
    cases n <;> exact h
  | .tup xs, n, h => by
    cases n with
    | zero => cases h
    | succ n =>
      obtain ⟨h1, h2⟩ := lays_py xs n h
      exact ⟨h1, Nat.succ_le_succ h2⟩
  | .lst xs, n, h => by
    cases n with
    | zero => cases h
    | succ n =>
      obtain ⟨h1, h2⟩ := lays_py xs n h
      exact ⟨h1, Nat.succ_le_succ h2⟩
  | .dct _, n, h => by cases n <;> cases h
  | .ref _, n, h => by cases n <;> cases h
  | .exc _, n, h => by cases n <;> cases h
  | .scr _, n, h => by cases n <;> cases h
theorem lays_py : ∀ (xs : List D) (n : Nat), xs.all (shd n) = true → PyData.canLayAll0 (toPys xs) = true ∧ PyData.depthAll (toPys xs) ≤ n
  | [], _, _ => ⟨rfl, Nat.zero_le _⟩
  | x :: xs, n, h => by
    rw [List.all_cons, Bool.and_eq_true] at h
    obtain ⟨h1, h2⟩ := lay_py x n h.1
    obtain ⟨h3, h4⟩ := lays_py xs n h.2
    unfold toPys PyData.canLayAll0 PyData.depthAll
    exact ⟨by rw [h1, h3]; rfl, Nat.max_le.mpr ⟨h2, h4⟩⟩
end
theorem shaped_py {d : D} (h : shd DEP d = true) : SeqAt.shaped (toPy d) = true := by
  obtain ⟨h1, h2⟩ := lay_py d DEP h
  unfold SeqAt.shaped
  rw [h1, decide_eq_true (Nat.le_trans h2 (by decide : DEP ≤ 64))]
  rfl
section
variable {K : PySem.W.Frag} {A A' : Ads} {H H' : Hp} {S : Store} {Q : VK}
mutual
theorem dp_of : ∀ (d : D) (n : Nat) (v : V), shd n d = true → Rp K H A d v → Dp K H v (toPy d)
  | .non, _, _, _, r => by rw [r.non]; exact .non
  | .bl b, _, _, _, r => by rw [r.bl]; exact .bl b
  | .int i, _, _, _, r => by rw [r.int]; exact .int i
  | .str x, _, _, _, r => by rw [r.str]; exact .str x
  | .tup xs, n, _, h, r => by
    obtain ⟨a, vs, rfl, h1, h2⟩ := r.tup
    cases n with
    | zero => cases h
    | succ n => exact .tup h1 (dps_of xs n vs h h2)
  | .lst xs, n, _, h, r => by
    obtain ⟨a, vs, rfl, h1, _, h2⟩ := r.lst
    cases n with
    | zero => cases h
    | succ n => exact .lst (SqL.of h1) (dps_of xs n vs h h2)
  | .dct _, n, _, h, _ => by cases n <;> cases h
  | .ref _, n, _, h, _ => by cases n <;> cases h
  | .exc _, n, _, h, _ => by cases n <;> cases h
  | .scr _, n, _, h, _ => by cases n <;> cases h
theorem dps_of : ∀ (xs : List D) (n : Nat) (vs : List V), xs.all (shd n) = true → Rps K H A xs vs → DpAll K H vs (toPys xs)
  | [], _, _, _, r => by unfold Rps at r; rw [r]; exact .nil
  | x :: xs, n, _, h, r => by
    rw [List.all_cons, Bool.and_eq_true] at h
    obtain ⟨v, vs, rfl, h1, h2⟩ := r.inv
    exact .cons (dp_of x n v h.1 h1) (dps_of xs n vs h.2 h2)
end
/-- .. read at the top -/
theorem dp_view {d : D} {v : V} (s : SR K H A S) (h : shd DEP (view S d) = true) (r : Rp K H A d v) : Dp K H v (toPy (view S d)) := by
  cases e : view S d with
  | lst xs =>
    rw [e] at h
    obtain ⟨a, vs, rfl, h1, h2⟩ := view_lst s r e
    exact .lst (SqL.of h1) (dps_of xs 59 vs h h2)
  | tup xs =>
    have := view_tup e
    subst this
    rw [e] at h
    exact dp_of _ DEP _ h r
  | ref k => rw [e] at h; cases h
  | _ =>
    have : view S d = d := by
      unfold view at e ⊢
      split at e
      · split at e <;> cases e
      · rfl
    rw [← e]
    rw [this] at h ⊢
    exact dp_of _ DEP _ h r
end

section
variable {X : Cx}
def rTst (K : PySem.W.Frag) (f : Store → D → D → Option Bool) : R2 := fun x y H Q => ∃ A S d e z, SR K H A S ∧ Rp K H A d x ∧ Rp K H A e y ∧ f S d e = some z ∧ Q (.bl z) H
theorem dec_str (x y : Str) : decide (V.str x = V.str y) = decide (x = y) := by
  by_cases h : x = y
  · subst h; simp
  · rw [decide_eq_false h, decide_eq_false fun z => h (V.str.inj z)]
theorem op_eqDD (hu : X.A.units + 65 < cLine) : OpR X (compareOp .Eq) (rTst X.K eqD) := OpR.by fun x y H Q ⟨A, S, d, e, z, s, rx, ry, hf, q⟩ => by
  unfold eqD at hf
  split at hf
  · rename_i a b
    cases hf
    rw [rx.str, ry.str]
    exact ⟨_, op_eq, rfl, by rw [dec_str]; exact q⟩
  · split at hf
    · rename_i h
      cases hf
      rw [Bool.and_eq_true] at h
      refine ⟨_, op_eqD (by omega), _, _, dp_view s h.1 rx, dp_view s h.2 ry, shaped_py h.1, shaped_py h.2, ?_⟩
      rw [← eqv_py _ _ _ _ h.1 h.2]
      exact q
    · cases hf
theorem op_neDD (hu : X.A.units + 65 < cLine) : OpR X (compareOp .NotEq) (rTst X.K fun S a b => (eqD S a b).map (!·)) := OpR.by fun x y H Q ⟨A, S, d, e, z, s, rx, ry, hf, q⟩ => by
  have hf : (eqD S d e).map (!·) = some z := hf
  unfold eqD at hf
  split at hf
  · rename_i a b
    cases hf
    rw [rx.str, ry.str]
    exact ⟨_, op_ne, rfl, by rw [dec_str]; exact q⟩
  · split at hf
    · rename_i h
      cases hf
      rw [Bool.and_eq_true] at h
      refine ⟨_, op_neD (by omega), _, _, dp_view s h.1 rx, dp_view s h.2 ry, shaped_py h.1, shaped_py h.2, ?_⟩
      rw [← eqv_py _ _ _ _ h.1 h.2]
      exact q
    · cases hf
theorem any_py (d : D) (h : shd DEP d = true) : ∀ (xs : List D) (n : Nat), xs.all (shd n) = true → (toPys xs).any (fun z => PyData.eqv z (toPy d)) = anyEq d xs
  | [], _, _ => rfl
  | x :: xs, n, hx => by
    rw [List.all_cons, Bool.and_eq_true] at hx
    unfold toPys anyEq
    rw [List.any_cons, List.any_cons, any_py d h xs n hx.2, eqv_py x d n DEP hx.1 h]
    rfl
theorem in_tupD (hu : X.A.units + 65 < cLine) : OpR X (compareOp .In) (fun x y H Q => ∃ d ds, Dp X.K H x d ∧ Dp X.K H y (.tuple ds) ∧ SeqAt.shaped d = true ∧ SeqAt.shaped (.tuple ds) = true ∧ Q (.bl (ds.any fun z => PyData.eqv z d)) H) := by
  intro pins s σ H x y v u Q I rx ry h
  obtain ⟨d, ds, hd, he, sd, se, q⟩ := h
  obtain ⟨as, r1⟩ := Dp.reads I d x v hd rx
  obtain ⟨bs, r2⟩ := Dp.reads I (.tuple ds) y u he ry
  exact SeqAt.in_tuple_reads r2 r1 (SeqAt.canLay_of_shaped se) (SeqAt.canLay_of_shaped sd) (room_in_shaped sd hu) ⟨.bl _, H, I, rfl, q⟩
theorem nin_tupD (hu : X.A.units + 65 < cLine) : OpR X (compareOp .NotIn) (fun x y H Q => ∃ d ds, Dp X.K H x d ∧ Dp X.K H y (.tuple ds) ∧ SeqAt.shaped d = true ∧ SeqAt.shaped (.tuple ds) = true ∧ Q (.bl (!ds.any fun z => PyData.eqv z d)) H) := by
  intro pins s σ H x y v u Q I rx ry h
  obtain ⟨d, ds, hd, he, sd, se, q⟩ := h
  obtain ⟨as, r1⟩ := Dp.reads I d x v hd rx
  obtain ⟨bs, r2⟩ := Dp.reads I (.tuple ds) y u he ry
  exact SeqAt.notIn_tuple_reads r2 r1 (SeqAt.canLay_of_shaped se) (SeqAt.canLay_of_shaped sd) (room_in_shaped sd hu) ⟨.bl _, H, I, rfl, q⟩
theorem all_59 {xs : List D} {n : Nat} (h : xs.all (shd n) = true) (hn : n ≤ 63) : SeqAt.shaped (.tuple (toPys xs)) = true ∧ SeqAt.shaped (.list (toPys xs)) = true := by
  obtain ⟨h1, h2⟩ := lays_py xs n h
  constructor <;>
  · unfold SeqAt.shaped
    show (PyData.canLayAll0 (toPys xs) && decide (PyData.depthAll (toPys xs) + 1 ≤ 64)) = true
    rw [h1, decide_eq_true (by omega)]
    rfl
theorem op_inDD (hu : X.A.units + 65 < cLine) : OpR X (compareOp .In) (rTst X.K inD) := OpR.by fun x y H Q ⟨A, S, d, e, z, s, rx, ry, hf, q⟩ => by
  unfold inD at hf
  split at hf
  · rename_i x' y'
    split at hf
    · rename_i c hl
      cases hf
      have e : x' = ⟨#[c]⟩ := by
        obtain ⟨⟨l⟩⟩ := x'
        have hl : l = [c] := hl
        rw [hl]
      subst e
      rw [rx.str, ry.str]
      exact ⟨_, op_in_sign, _, _, rfl, rfl, q⟩
    · cases hf
  · split at hf
    · rename_i xs e1
      split at hf
      · rename_i h
        cases hf
        rw [Bool.and_eq_true] at h
        obtain ⟨a, vs, rfl, h1, h2⟩ := view_lst s ry e1
        refine ⟨_, op_inD hu, _, toPys xs, dp_of _ _ _ h.1 rx, .lst (SqL.of h1) (dps_of xs _ vs h.2 h2), shaped_py h.1, (all_59 h.2 (by decide)).2, ?_⟩
        rw [any_py _ h.1 xs _ h.2]
        exact q
      · cases hf
    · rename_i xs e1
      split at hf
      · rename_i h
        cases hf
        rw [Bool.and_eq_true] at h
        have e2 := view_tup e1
        subst e2
        obtain ⟨a, vs, rfl, h1, h2⟩ := ry.tup
        refine ⟨_, in_tupD hu, _, toPys xs, dp_of _ _ _ h.1 rx, .tup h1 (dps_of xs _ vs h.2 h2), shaped_py h.1, (all_59 h.2 (by decide)).1, ?_⟩
        rw [any_py _ h.1 xs _ h.2]
        exact q
      · cases hf
    · cases hf
theorem op_ninDD (hu : X.A.units + 65 < cLine) : OpR X (compareOp .NotIn) (rTst X.K fun S a b => (inD S a b).map (!·)) := OpR.by fun x y H Q ⟨A, S, d, e, z, s, rx, ry, hf0, q⟩ => by
  obtain ⟨b, hf, rfl⟩ := Option.map_eq_some_iff.mp (show (inD S d e).map (!·) = some z from hf0)
  unfold inD at hf
  split at hf
  · rename_i x' y'
    split at hf
    · rename_i c hl
      cases hf
      have e : x' = ⟨#[c]⟩ := by
        obtain ⟨⟨l⟩⟩ := x'
        have hl : l = [c] := hl
        rw [hl]
      subst e
      rw [rx.str, ry.str]
      exact ⟨_, op_notIn_sign, _, _, rfl, rfl, q⟩
    · cases hf
  · split at hf
    · rename_i xs e1
      split at hf
      · rename_i h
        cases hf
        rw [Bool.and_eq_true] at h
        obtain ⟨a, vs, rfl, h1, h2⟩ := view_lst s ry e1
        refine ⟨_, op_notInD hu, _, toPys xs, dp_of _ _ _ h.1 rx, .lst (SqL.of h1) (dps_of xs _ vs h.2 h2), shaped_py h.1, (all_59 h.2 (by decide)).2, ?_⟩
        rw [any_py _ h.1 xs _ h.2]
        exact q
      · cases hf
    · rename_i xs e1
      split at hf
      · rename_i h
        cases hf
        rw [Bool.and_eq_true] at h
        have e2 := view_tup e1
        subst e2
        obtain ⟨a, vs, rfl, h1, h2⟩ := ry.tup
        refine ⟨_, nin_tupD hu, _, toPys xs, dp_of _ _ _ h.1 rx, .tup h1 (dps_of xs _ vs h.2 h2), shaped_py h.1, (all_59 h.2 (by decide)).1, ?_⟩
        rw [any_py _ h.1 xs _ h.2]
        exact q
      · cases hf
    · cases hf
end
end Rs
end

section
set_option Elab.async false
set_option linter.all false
set_option maxRecDepth 100000
set_option maxHeartbeats 1000000
set_option autoImplicit false
/-! RsOps2: the order, is, places, slices, kinds, built-in functions, methods, by values. Own work. -/
namespace Rs
open PySem PySem.Spec PyProof.Rows L2
section
variable {X : Cx}
theorem ints_of : ∀ {xs : List D} {ns : List Int}, intsD xs = some ns → xs = ns.map D.int
  | [], _, h => by cases h; rfl
  | .int i :: r, ns, h => by
    unfold intsD at h
    obtain ⟨ms, h1, rfl⟩ := Option.map_eq_some_iff.mp h
    rw [ints_of h1]
    rfl
  | .non :: _, _, h => by cases h
  | .bl _ :: _, _, h => by cases h
  | .str _ :: _, _, h => by cases h
  | .tup _ :: _, _, h => by cases h
  | .lst _ :: _, _, h => by cases h
  | .dct _ :: _, _, h => by cases h
  | .ref _ :: _, _, h => by cases h
  | .exc _ :: _, _, h => by cases h
  | .scr _ :: _, _, h => by cases h
theorem rps_of_ints {K : PySem.W.Frag} {H : Hp} {A : Ads} : ∀ {ns : List Int} {vs : List V}, Rps K H A (ns.map D.int) vs → vs = ns.map V.int
  | [], _, h => by unfold Rps at h; exact h
  | n :: ns, _, h => by
    obtain ⟨v, r, rfl, h1, h2⟩ := Rps.inv h
    rw [h1.int, rps_of_ints h2]
    rfl
theorem op_ltO (hu : X.A.units + 65 < cLine) : OpR X (compareOp .Lt) (rTst X.K fun _ => ltO) := OpR.by fun x y H Q ⟨A, S, d, e, z, s, rx, ry, hf, q⟩ => by
  have hf : ltO d e = some z := hf
  unfold ltO at hf
  split at hf
  · cases hf
    rw [rx.int, ry.int]
    exact ⟨_, op_lt, _, _, rfl, rfl, q⟩
  · split at hf
    · rename_i ns ms h1 h2
      cases hf
      obtain ⟨a, vs, rfl, h3, h4⟩ := rx.tup
      obtain ⟨b, us, rfl, h5, h6⟩ := ry.tup
      rw [ints_of h1] at h4
      rw [ints_of h2] at h6
      rw [rps_of_ints h4] at h3
      rw [rps_of_ints h6] at h5
      exact ⟨_, op_ltT (by omega), a, b, ns, ms, rfl, rfl, h3, h5, q⟩
    · cases hf
  · cases hf
theorem op_leO : OpR X (compareOp .LtE) (rTst X.K fun _ => leO) := OpR.by fun x y H Q ⟨A, S, d, e, z, s, rx, ry, hf, q⟩ => by
  have hf : leO d e = some z := hf
  unfold leO at hf
  split at hf
  · cases hf
    rw [rx.int, ry.int]
    exact ⟨_, op_le, _, _, rfl, rfl, q⟩
  · cases hf
theorem op_gtO : OpR X (compareOp .Gt) (rTst X.K fun _ => gtO) := OpR.by fun x y H Q ⟨A, S, d, e, z, s, rx, ry, hf, q⟩ => by
  have hf : gtO d e = some z := hf
  unfold gtO at hf
  split at hf
  · cases hf
    rw [rx.int, ry.int]
    exact ⟨_, op_gt, _, _, rfl, rfl, q⟩
  · cases hf
theorem op_geO : OpR X (compareOp .GtE) (rTst X.K fun _ => geO) := OpR.by fun x y H Q ⟨A, S, d, e, z, s, rx, ry, hf, q⟩ => by
  have hf : geO d e = some z := hf
  unfold geO at hf
  split at hf
  · cases hf
    rw [rx.int, ry.int]
    exact ⟨_, op_ge, _, _, rfl, rfl, q⟩
  · cases hf
theorem not_non {K : PySem.W.Frag} {H : Hp} {A : Ads} {d : D} {v : V} (h : Rp K H A d v) (n : d ≠ .non) : decide (v = V.non) = false := by
  refine decide_eq_false fun e => ?_
  subst e
  cases d with
  | non => exact n rfl
  | bl b => exact nomatch h.bl
  | int i => exact nomatch h.int
  | str x => exact nomatch h.str
  | tup xs => obtain ⟨_, _, e, _⟩ := h.tup; cases e
  | lst xs => obtain ⟨_, _, e, _⟩ := h.lst; cases e
  | dct xs => unfold Rp at h; obtain ⟨_, e, _⟩ := h; cases e
  | ref k => obtain ⟨_, _, _, e⟩ := h.ref; cases e
  | exc c => unfold Rp at h; exact h
  | scr ns => obtain ⟨_, e, _⟩ := h.scr; cases e
theorem op_isO : OpR X (compareOp .Is) (rTst X.K fun _ => isD) := OpR.by fun x y H Q ⟨A, S, d, e, z, s, rx, ry, hf, q⟩ => by
  have hf : isD d e = some z := hf
  unfold isD at hf
  split at hf
  · cases hf
    rw [rx.non, ry.non]
    exact ⟨_, op_isN, rfl, q⟩
  · cases hf
  · rename_i h1 h2
    cases hf
    rw [ry.non]
    refine ⟨_, op_isN, rfl, ?_⟩
    rw [not_non rx fun e => by subst e; exact h1 rfl]
    exact q
  · cases hf
    rw [rx.bl, ry.bl]
    exact ⟨_, op_is_bl, _, _, rfl, rfl, q⟩
  · cases hf
theorem op_isntO : OpR X (compareOp .IsNot) (rTst X.K fun _ a b => (isD a b).map (!·)) := OpR.by fun x y H Q ⟨A, S, d, e, z, s, rx, ry, hf0, q⟩ => by
  obtain ⟨b, hf, rfl⟩ := Option.map_eq_some_iff.mp (show (isD d e).map (!·) = some z from hf0)
  unfold isD at hf
  split at hf
  · cases hf
    rw [rx.non, ry.non]
    exact ⟨_, op_notN, rfl, q⟩
  · cases hf
  · rename_i h1 h2
    cases hf
    rw [ry.non]
    refine ⟨_, op_notN, rfl, ?_⟩
    rw [not_non rx fun e => by subst e; exact h1 rfl]
    exact q
  · cases hf
    rw [rx.bl, ry.bl]
    exact ⟨_, op_isnot_bl, _, _, rfl, rfl, q⟩
  · cases hf
def cmpOf : Cop → CmpOp
  | .eq => .Eq
  | .ne => .NotEq
  | .lt => .Lt
  | .le => .LtE
  | .gt => .Gt
  | .ge => .GtE
  | .isin => .In
  | .nin => .NotIn
  | .is => .Is
  | .isnt => .IsNot
theorem op_cops (hu : X.A.units + 65 < cLine) : ∀ o : Cop, OpR X (compareOp (cmpOf o)) (rTst X.K fun S => cops S o)
  | .eq => op_eqDD hu
  | .ne => op_neDD hu
  | .lt => op_ltO hu
  | .le => op_leO
  | .gt => op_gtO
  | .ge => op_geO
  | .isin => op_inDD hu
  | .nin => op_ninDD hu
  | .is => op_isO
  | .isnt => op_isntO

/-! ### places -/
theorem atI_rps {K : PySem.W.Frag} {H : Hp} {A : Ads} {ds : List D} {vs : List V} (r : Rps K H A ds vs) {i : Int} {d : D} (h : atI ds i = some d) : ∃ v, atI vs i = some v ∧ Rp K H A d v := by
  unfold atI at h ⊢
  rw [← r.length]
  cases e : L2.ixN ds.length i with
  | none => rw [e] at h; cases h
  | some j =>
    rw [e] at h
    exact r.get h
theorem ix_D : IxR X (rOp X.K ixD) := by
  intro va sc pins s σ H x y v u Q I rx ry h hs
  obtain ⟨A, S, d, e, z, sr, hx, hy, hf, ho⟩ := h
  unfold ixD at hf
  split at hf
  · rename_i i
    rw [hy.int] at ry
    split at hf
    · rename_i xs e1
      obtain ⟨a, vs, rfl, h1, h2⟩ := seq_of sr hx e1
      obtain ⟨w, h3, h4⟩ := atI_rps h2 hf
      rcases h1 with h1 | h1
      · exact ix_list va sc pins s σ H _ _ v u Q I rx ry ⟨a, vs, i, w, rfl, rfl, h1, h3, ho.here sr h4⟩ hs
      · exact ix_tup va sc pins s σ H _ _ v u Q I rx ry ⟨a, vs, i, w, rfl, rfl, h1, h3, ho.here sr h4⟩ hs
    · split at hf
      · split at hf
        · rename_i z' _ hl
          obtain ⟨c, h1, rfl⟩ := Option.map_eq_some_iff.mp hf
          rw [hx.str] at rx
          exact ix_str va sc pins s σ H _ _ v u Q I rx ry ⟨z', i, c, rfl, rfl, lim_size hl, h1, ho.here sr rp_str⟩ hs
        · cases hf
      · cases hf
  · cases hf
/-! ### slices -/
def rSlD (K : PySem.W.Frag) : V → Option Int → Option Int → Hp → VK → Prop := fun x lo hi H Q => ∃ A S d z, SR K H A S ∧ Rp K H A d x ∧ slD S d lo hi = some z ∧ Out K A H S z Q
theorem cut_whole {α : Type} (xs : List α) (lo hi : Option Int) (h : HT.sIx xs.length 0 lo = 0 ∧ HT.sIx xs.length xs.length hi = xs.length) : Rs.cut xs lo hi = xs := by
  unfold Rs.cut
  rw [h.1, h.2]
  simp
theorem sl_D : SlR X (rSlD X.K) := by
  intro pins s σ H x v vl vu lo hi sl Q I rx hs pl pu h
  obtain ⟨A, S, d, z, sr, hx, hf, ho⟩ := h
  unfold slD at hf
  split at hf
  · rename_i xs e1
    cases hf
    have e2 := view_tup e1
    subst e2
    obtain ⟨a, vs, rfl, h1, h2⟩ := hx.tup
    refine sl_tupA pins s σ H _ v vl vu lo hi sl Q I rx hs pl pu ⟨a, vs, rfl, h1, fun e => ?_, fun _ p hp => ho.tupN sr (h2.cut lo hi) hp⟩
    rw [← h2.length] at e
    rw [cut_whole xs lo hi e] at ho
    exact ho.here sr (rp_tup h1 h2)
  · rename_i xs e1
    cases hf
    obtain ⟨a, vs, rfl, h1, h2⟩ := view_lst sr hx e1
    exact sl_list pins s σ H _ v vl vu lo hi sl Q I rx hs pl pu ⟨a, vs, rfl, SqL.of h1, fun p hp => ho.lstN sr (h2.cut lo hi) hp⟩
  · rename_i ns e1
    cases hf
    have e2 := view_scr e1
    subst e2
    obtain ⟨a, rfl, h1⟩ := hx.scr
    exact sl_list pins s σ H _ v vl vu lo hi sl Q I rx hs pl pu ⟨a, _, rfl, h1, fun p hp => ho.lstN sr ((rps_ints ns).cut lo hi) hp⟩
  · split at hf
    · rename_i x' e1 hl
      cases hf
      have e2 : d = .str x' := by
        unfold view at e1
        split at e1
        · split at e1 <;> cases e1
        · exact e1
      subst e2
      rw [hx.str] at rx
      exact sl_str pins s σ H _ v vl vu lo hi sl Q I rx hs pl pu ⟨x', rfl, lim_size hl, ho.here sr rp_str⟩
    · cases hf
  · cases hf

/-! ### built-in functions -/
def rBl (K : PySem.W.Frag) (f : Store → List D → Option D) : List V → Hp → VK → Prop := fun xs H Q => ∃ A S ds z, SR K H A S ∧ Rps K H A ds xs ∧ f S ds = some z ∧ Out K A H S z Q
theorem CallR.by {f : Value} {r : List V → Hp → VK → Prop} (h : ∀ xs H Q, r xs H Q → ∃ r', CallR X f r' ∧ r' xs H Q) : CallR X f r :=
  fun pins s σ H xs us Q I rx q => let ⟨_, h1, h2⟩ := h xs H Q q; h1 pins s σ H xs us Q I rx h2
theorem rps1 {K : PySem.W.Frag} {H : Hp} {A : Ads} {d : D} {vs : List V} (h : Rps K H A [d] vs) : ∃ v, vs = [v] ∧ Rp K H A d v := by
  obtain ⟨v, r, rfl, h1, h2⟩ := h.inv
  unfold Rps at h2
  subst h2
  exact ⟨v, rfl, h1⟩
theorem rps2 {K : PySem.W.Frag} {H : Hp} {A : Ads} {d e : D} {vs : List V} (h : Rps K H A [d, e] vs) : ∃ v u, vs = [v, u] ∧ Rp K H A d v ∧ Rp K H A e u := by
  obtain ⟨v, r, rfl, h1, h2⟩ := h.inv
  obtain ⟨u, rfl, h3⟩ := rps1 h2
  exact ⟨v, u, rfl, h1, h3⟩
theorem call_lenD : CallR X (.builtin "len") (rBl X.K lenD) := CallR.by fun xs H Q ⟨A, S, ds, z, s, rr, hf, ho⟩ => by
  unfold lenD at hf
  split at hf
  · obtain ⟨v, rfl, r⟩ := rps1 rr
    split at hf
    · rename_i ys e1
      cases hf
      obtain ⟨a, vs, rfl, h1, h2⟩ := seq_of s r e1
      rw [h2.length] at ho
      exact ⟨_, call_len_seq, a, vs, rfl, h1, ho.here s rp_int⟩
    · split at hf
      · split at hf
        · rename_i hl
          cases hf
          rw [r.str]
          exact ⟨_, call_len_str, _, rfl, lim_size hl, ho.here s rp_int⟩
        · cases hf
      · cases hf
  · cases hf
theorem call_absD : CallR X (.builtin "abs") (rBl X.K fun _ => absD) := CallR.by fun xs H Q ⟨A, S, ds, z, s, rr, hf, ho⟩ => by
  have hf : absD ds = some z := hf
  unfold absD at hf
  split at hf
  · cases hf
    obtain ⟨v, rfl, r⟩ := rps1 rr
    rw [r.int]
    exact ⟨_, call_abs, _, rfl, ho.here s rp_int⟩
  · cases hf
theorem maxI_ok : ∀ {ns : List Int} {m : Int}, maxI ns = some m → m ∈ ns ∧ ∀ y ∈ ns, y ≤ m
  | [], _, h => by cases h
  | [i], m, h => by cases h; exact ⟨List.mem_singleton.mpr rfl, fun y hy => by rw [List.mem_singleton.mp hy]; exact Int.le_refl _⟩
  | i :: j :: r, m, h => by
    unfold maxI at h
    obtain ⟨k, h1, rfl⟩ := Option.map_eq_some_iff.mp h
    obtain ⟨h2, h3⟩ := maxI_ok h1
    by_cases hk : k > i
    · rw [if_pos hk]
      refine ⟨List.mem_cons_of_mem _ h2, fun y hy => ?_⟩
      rcases List.mem_cons.mp hy with rfl | hy
      · omega
      · exact h3 y hy
    · rw [if_neg hk]
      refine ⟨List.mem_cons_self, fun y hy => ?_⟩
      rcases List.mem_cons.mp hy with rfl | hy
      · omega
      · have := h3 y hy; omega
theorem minI_ok : ∀ {ns : List Int} {m : Int}, minI ns = some m → m ∈ ns ∧ ∀ y ∈ ns, m ≤ y
  | [], _, h => by cases h
  | [i], m, h => by cases h; exact ⟨List.mem_singleton.mpr rfl, fun y hy => by rw [List.mem_singleton.mp hy]; exact Int.le_refl _⟩
  | i :: j :: r, m, h => by
    unfold minI at h
    obtain ⟨k, h1, rfl⟩ := Option.map_eq_some_iff.mp h
    obtain ⟨h2, h3⟩ := minI_ok h1
    by_cases hk : k < i
    · rw [if_pos hk]
      refine ⟨List.mem_cons_of_mem _ h2, fun y hy => ?_⟩
      rcases List.mem_cons.mp hy with rfl | hy
      · omega
      · exact h3 y hy
    · rw [if_neg hk]
      refine ⟨List.mem_cons_self, fun y hy => ?_⟩
      rcases List.mem_cons.mp hy with rfl | hy
      · omega
      · have := h3 y hy; omega
/-! the greatest and the least of a tuple of numbers -/
theorem readsInts (h : Heap) : ∀ {ns : List Int} {its : List Value}, Vals (ns.map V.int) its → ReadsAll h its (ns.map PyData.int) []
  | [], _, .nil => .nil
  | n :: ns, _, .cons r t => by
    obtain ⟨tk, rfl⟩ := r
    exact .cons (as := []) (bs := []) (.int n tk) (readsInts h t)
theorem depthInts : ∀ ns : List Int, PyData.depthAll (ns.map PyData.int) = 0
  | [] => rfl
  | n :: ns => by
    rw [List.map_cons]
    show Nat.max _ (PyData.depthAll (ns.map PyData.int)) = 0
    rw [depthInts ns]
    rfl
theorem alikeInts (ns : List Int) : PySem.W.AlikeAll (ns.map PyData.int) := by
  refine ⟨fun x hx y hy => ?_, fun x hx => ?_⟩
  · obtain ⟨a, _, rfl⟩ := List.mem_map.mp hx
    obtain ⟨b, _, rfl⟩ := List.mem_map.mp hy
    rfl
  · obtain ⟨a, _, rfl⟩ := List.mem_map.mp hx
    exact fun z => nomatch z
theorem foldMax : ∀ (ns : List Int) (n : Int), ns.foldl max n ∈ n :: ns ∧ ∀ y ∈ n :: ns, y ≤ ns.foldl max n
  | [], n => ⟨List.mem_cons_self, fun y hy => by rw [List.mem_singleton.mp hy]; exact Int.le_refl _⟩
  | m :: ns, n => by
    obtain ⟨h1, h2⟩ := foldMax ns (max n m)
    rw [List.foldl_cons]
    have hm := h2 (max n m) List.mem_cons_self
    refine ⟨?_, fun y hy => ?_⟩
    · rcases List.mem_cons.mp h1 with e | h1
      · rw [e]
        by_cases h : n ≤ m
        · rw [Int.max_eq_right h]; exact List.mem_cons_of_mem _ List.mem_cons_self
        · rw [Int.max_eq_left (by omega)]; exact List.mem_cons_self
      · exact List.mem_cons_of_mem _ (List.mem_cons_of_mem _ h1)
    · rcases List.mem_cons.mp hy with rfl | hy
      · omega
      · rcases List.mem_cons.mp hy with rfl | hy
        · omega
        · exact h2 y (List.mem_cons_of_mem _ hy)
theorem foldMin : ∀ (ns : List Int) (n : Int), ns.foldl min n ∈ n :: ns ∧ ∀ y ∈ n :: ns, ns.foldl min n ≤ y
  | [], n => ⟨List.mem_cons_self, fun y hy => by rw [List.mem_singleton.mp hy]; exact Int.le_refl _⟩
  | m :: ns, n => by
    obtain ⟨h1, h2⟩ := foldMin ns (min n m)
    rw [List.foldl_cons]
    have hm := h2 (min n m) List.mem_cons_self
    refine ⟨?_, fun y hy => ?_⟩
    · rcases List.mem_cons.mp h1 with e | h1
      · rw [e]
        by_cases h : n ≤ m
        · rw [Int.min_eq_left h]; exact List.mem_cons_self
        · rw [Int.min_eq_right (by omega)]; exact List.mem_cons_of_mem _ List.mem_cons_self
      · exact List.mem_cons_of_mem _ (List.mem_cons_of_mem _ h1)
    · rcases List.mem_cons.mp hy with rfl | hy
      · omega
      · rcases List.mem_cons.mp hy with rfl | hy
        · omega
        · exact h2 y (List.mem_cons_of_mem _ hy)
def rMaxT (K : PySem.W.Frag) : List V → Hp → VK → Prop := fun vs H Q => ∃ (a : Addr) (ns : List Int), vs = [.ref a] ∧ SqT K H a (ns.map V.int) ∧ ns ≠ [] ∧ ∀ m, m ∈ ns → (∀ y ∈ ns, y ≤ m) → Q (.int m) H
def rMinT (K : PySem.W.Frag) : List V → Hp → VK → Prop := fun vs H Q => ∃ (a : Addr) (ns : List Int), vs = [.ref a] ∧ SqT K H a (ns.map V.int) ∧ ns ≠ [] ∧ ∀ m, m ∈ ns → (∀ y ∈ ns, m ≤ y) → Q (.int m) H
theorem cr_maxT (hc : X.calm = true) (hu : X.A.units + 65 < cLine) : CallR X (.builtin "max") (rMaxT X.K) := by
  rintro pins s σ H vs us Q I r ⟨a, ns, rfl, ht, hne, q⟩
  obtain ⟨its, rv, hT, _⟩ := I.tuple ht
  rw [Vals.ref1 r]
  cases ns with
  | nil => exact (hne rfl).elim
  | cons n ns =>
    refine PySem.W.max_tuple_data (x := .int n) (xs := ns.map PyData.int) (I.ok.hd hc) hT (readsInts s.heap rv) (alikeInts (n :: ns)) ?_ fun i v h' tk bs hv hR hk => ?_
    · have := depthInts (n :: ns)
      rw [List.map_cons] at this
      omega
    · rw [PySem.W.maxD_ints] at hR
      cases hR with
      | int _ t => exact ⟨.int _, H, I.kept hk, ⟨t, rfl⟩, q _ (foldMax ns n).1 (foldMax ns n).2⟩
theorem cr_minT (hc : X.calm = true) (hu : X.A.units + 65 < cLine) : CallR X (.builtin "min") (rMinT X.K) := by
  rintro pins s σ H vs us Q I r ⟨a, ns, rfl, ht, hne, q⟩
  obtain ⟨its, rv, hT, _⟩ := I.tuple ht
  rw [Vals.ref1 r]
  cases ns with
  | nil => exact (hne rfl).elim
  | cons n ns =>
    refine PySem.W.min_tuple_data (x := .int n) (xs := ns.map PyData.int) (I.ok.hd hc) hT (readsInts s.heap rv) (alikeInts (n :: ns)) ?_ fun i v h' tk bs hv hR hk => ?_
    · have := depthInts (n :: ns)
      rw [List.map_cons] at this
      omega
    · rw [PySem.W.minD_ints] at hR
      cases hR with
      | int _ t => exact ⟨.int _, H, I.kept hk, ⟨t, rfl⟩, q _ (foldMin ns n).1 (foldMin ns n).2⟩
theorem call_maxD (hc : X.calm = true) (hu : X.A.units + 65 < cLine) : CallR X (.builtin "max") (rBl X.K maxD) := CallR.by fun xs H Q ⟨A, S, ds, z, s, rr, hf, ho⟩ => by
  unfold maxD at hf
  split at hf
  · cases hf
    obtain ⟨v, u, rfl, r1, r2⟩ := rps2 rr
    rw [r1.int, r2.int]
    exact ⟨_, call_max2 hc, _, _, rfl, ho.here s rp_int⟩
  · split at hf
    · rename_i ys e1
      obtain ⟨ns, h1, h2⟩ := Option.bind_eq_some_iff.mp hf
      obtain ⟨m, h3, rfl⟩ := Option.map_eq_some_iff.mp h2
      obtain ⟨v, rfl, r⟩ := rps1 rr
      obtain ⟨a, vs, rfl, h4, h5⟩ := view_lst s r e1
      rw [ints_of h1] at h5
      have e2 := rps_of_ints h5
      subst e2
      obtain ⟨h6, h7⟩ := maxI_ok h3
      refine ⟨_, cr_max hc, a, ns, rfl, SqL.of h4, List.length_pos_of_mem h6, fun m' hm hle => ?_⟩
      have : m' = m := Int.le_antisymm (h7 m' hm) (hle m h6)
      rw [this]
      exact ho.here s rp_int
    · rename_i ys e1
      obtain ⟨ns, h1, h2⟩ := Option.bind_eq_some_iff.mp hf
      obtain ⟨m, h3, rfl⟩ := Option.map_eq_some_iff.mp h2
      obtain ⟨v, rfl, r⟩ := rps1 rr
      have e2 := view_tup e1
      subst e2
      obtain ⟨a, vs, rfl, h4, h5⟩ := r.tup
      rw [ints_of h1] at h5
      have e2 := rps_of_ints h5
      subst e2
      obtain ⟨h6, h7⟩ := maxI_ok h3
      refine ⟨_, cr_maxT hc hu, a, ns, rfl, h4, List.ne_nil_of_mem h6, fun m' hm hle => ?_⟩
      have : m' = m := Int.le_antisymm (h7 m' hm) (hle m h6)
      rw [this]
      exact ho.here s rp_int
    · cases hf
  · cases hf
theorem call_minD (hc : X.calm = true) (hu : X.A.units + 65 < cLine) : CallR X (.builtin "min") (rBl X.K minD) := CallR.by fun xs H Q ⟨A, S, ds, z, s, rr, hf, ho⟩ => by
  unfold minD at hf
  split at hf
  · cases hf
    obtain ⟨v, u, rfl, r1, r2⟩ := rps2 rr
    rw [r1.int, r2.int]
    exact ⟨_, call_min2 hc, _, _, rfl, ho.here s rp_int⟩
  · split at hf
    · rename_i ys e1
      obtain ⟨ns, h1, h2⟩ := Option.bind_eq_some_iff.mp hf
      obtain ⟨m, h3, rfl⟩ := Option.map_eq_some_iff.mp h2
      obtain ⟨v, rfl, r⟩ := rps1 rr
      obtain ⟨a, vs, rfl, h4, h5⟩ := view_lst s r e1
      rw [ints_of h1] at h5
      have e2 := rps_of_ints h5
      subst e2
      obtain ⟨h6, h7⟩ := minI_ok h3
      refine ⟨_, cr_min hc, a, ns, rfl, SqL.of h4, List.length_pos_of_mem h6, fun m' hm hle => ?_⟩
      have : m' = m := Int.le_antisymm (hle m h6) (h7 m' hm)
      rw [this]
      exact ho.here s rp_int
    · rename_i ys e1
      obtain ⟨ns, h1, h2⟩ := Option.bind_eq_some_iff.mp hf
      obtain ⟨m, h3, rfl⟩ := Option.map_eq_some_iff.mp h2
      obtain ⟨v, rfl, r⟩ := rps1 rr
      have e2 := view_tup e1
      subst e2
      obtain ⟨a, vs, rfl, h4, h5⟩ := r.tup
      rw [ints_of h1] at h5
      have e2 := rps_of_ints h5
      subst e2
      obtain ⟨h6, h7⟩ := minI_ok h3
      refine ⟨_, cr_minT hc hu, a, ns, rfl, h4, List.ne_nil_of_mem h6, fun m' hm hle => ?_⟩
      have : m' = m := Int.le_antisymm (hle m h6) (h7 m' hm)
      rw [this]
      exact ho.here s rp_int
    · cases hf
  · cases hf
theorem call_sumD (hc : X.calm = true) : CallR X (.builtin "sum") (rBl X.K sumD) := CallR.by fun xs H Q ⟨A, S, ds, z, s, rr, hf, ho⟩ => by
  unfold sumD at hf
  split at hf
  · split at hf
    · rename_i ys e1
      obtain ⟨ns, h1, rfl⟩ := Option.map_eq_some_iff.mp hf
      obtain ⟨v, rfl, r⟩ := rps1 rr
      obtain ⟨a, vs, rfl, h4, h5⟩ := view_lst s r e1
      rw [ints_of h1] at h5
      have e2 := rps_of_ints h5
      subst e2
      exact ⟨_, cr_sum hc, a, ns, rfl, SqL.of h4, ho.here s rp_int⟩
    · cases hf
  · cases hf
theorem bls_of : ∀ {xs : List D} {bs : List Bool}, bltsD xs = some bs → xs = bs.map D.bl
  | [], _, h => by cases h; rfl
  | .bl i :: r, ns, h => by
    unfold bltsD at h
    obtain ⟨ms, h1, rfl⟩ := Option.map_eq_some_iff.mp h
    rw [bls_of h1]
    rfl
  | .non :: _, _, h => by cases h
  | .int _ :: _, _, h => by cases h
  | .str _ :: _, _, h => by cases h
  | .tup _ :: _, _, h => by cases h
  | .lst _ :: _, _, h => by cases h
  | .dct _ :: _, _, h => by cases h
  | .ref _ :: _, _, h => by cases h
  | .exc _ :: _, _, h => by cases h
  | .scr _ :: _, _, h => by cases h
theorem rps_of_bls {K : PySem.W.Frag} {H : Hp} {A : Ads} : ∀ {ns : List Bool} {vs : List V}, Rps K H A (ns.map D.bl) vs → vs = ns.map V.bl
  | [], _, h => by unfold Rps at h; exact h
  | n :: ns, _, h => by
    obtain ⟨v, r, rfl, h1, h2⟩ := Rps.inv h
    rw [h1.bl, rps_of_bls h2]
    rfl
theorem call_allD (hc : X.calm = true) : CallR X (.builtin "all") (rBl X.K allD) := CallR.by fun xs H Q ⟨A, S, ds, z, s, rr, hf, ho⟩ => by
  unfold allD at hf
  split at hf
  · split at hf
    · rename_i ys e1
      obtain ⟨ns, h1, rfl⟩ := Option.map_eq_some_iff.mp hf
      obtain ⟨v, rfl, r⟩ := rps1 rr
      obtain ⟨a, vs, rfl, h4, h5⟩ := view_lst s r e1
      rw [bls_of h1] at h5
      have e2 := rps_of_bls h5
      subst e2
      exact ⟨_, cr_all hc, a, ns, rfl, SqL.of h4, ho.here s rp_bl⟩
    · cases hf
  · cases hf
theorem call_anyD (hc : X.calm = true) : CallR X (.builtin "any") (rBl X.K anyD) := CallR.by fun xs H Q ⟨A, S, ds, z, s, rr, hf, ho⟩ => by
  unfold anyD at hf
  split at hf
  · split at hf
    · rename_i ys e1
      obtain ⟨ns, h1, rfl⟩ := Option.map_eq_some_iff.mp hf
      obtain ⟨v, rfl, r⟩ := rps1 rr
      obtain ⟨a, vs, rfl, h4, h5⟩ := view_lst s r e1
      rw [bls_of h1] at h5
      have e2 := rps_of_bls h5
      subst e2
      exact ⟨_, cr_any hc, a, ns, rfl, SqL.of h4, ho.here s rp_bl⟩
    · cases hf
  · cases hf
theorem insI_perm (i : Int) : ∀ l : List Int, (insI i l).Perm (i :: l)
  | [] => List.Perm.refl _
  | j :: r => by
    unfold insI
    split
    · exact List.Perm.refl _
    · exact ((insI_perm i r).cons j).trans (List.Perm.swap i j r)
theorem sortI_perm : ∀ l : List Int, (sortI l).Perm l
  | [] => List.Perm.refl _
  | i :: r => (insI_perm i (sortI r)).trans ((sortI_perm r).cons i)
theorem insI_sorted (i : Int) : ∀ l : List Int, l.Pairwise (· ≤ ·) → (insI i l).Pairwise (· ≤ ·)
  | [], _ => List.pairwise_singleton _ _
  | j :: r, h => by
    unfold insI
    split
    · rename_i hij
      refine List.pairwise_cons.mpr ⟨fun a ha => ?_, h⟩
      rcases List.mem_cons.mp ha with rfl | ha
      · exact hij
      · exact Int.le_trans hij ((List.pairwise_cons.mp h).1 a ha)
    · rename_i hij
      refine List.pairwise_cons.mpr ⟨fun a ha => ?_, insI_sorted i r (List.pairwise_cons.mp h).2⟩
      rcases List.mem_cons.mp ((insI_perm i r).mem_iff.mp ha) with rfl | ha
      · omega
      · exact (List.pairwise_cons.mp h).1 a ha
theorem sortI_sorted : ∀ l : List Int, (sortI l).Pairwise (· ≤ ·)
  | [] => List.Pairwise.nil
  | i :: r => insI_sorted i _ (sortI_sorted r)
theorem sorted_uni : ∀ {l m : List Int}, l.Perm m → l.Pairwise (· ≤ ·) → m.Pairwise (· ≤ ·) → l = m
  | [], m, p, _, _ => (List.Perm.nil_eq p)
  | a :: l, [], p, _, _ => nomatch (List.Perm.length_eq p)
  | a :: l, b :: m, p, h1, h2 => by
    have hab : a = b := by
      have m1 : a ∈ b :: m := p.mem_iff.mp List.mem_cons_self
      have m2 : b ∈ a :: l := p.mem_iff.mpr List.mem_cons_self
      rcases List.mem_cons.mp m1 with e | m1
      · exact e
      · rcases List.mem_cons.mp m2 with e | m2
        · exact e.symm
        · exact Int.le_antisymm ((List.pairwise_cons.mp h1).1 b m2) ((List.pairwise_cons.mp h2).1 a m1)
    subst hab
    rw [sorted_uni (List.perm_cons a |>.mp p) (List.pairwise_cons.mp h1).2 (List.pairwise_cons.mp h2).2]
/-! tuples of numbers sorted -/
theorem tups_of : ∀ {xs : List D} {ts : List (List Int)}, tupsD xs = some ts → xs = ts.map fun t => D.tup (t.map D.int)
  | [], _, h => by cases h; rfl
  | .tup ys :: r, ts, h => by
    unfold tupsD at h
    split at h
    · rename_i ns us e1 e2
      cases h
      rw [ints_of e1, tups_of e2]
      rfl
    · cases h
  | .non :: _, _, h => by cases h
  | .bl _ :: _, _, h => by cases h
  | .int _ :: _, _, h => by cases h
  | .str _ :: _, _, h => by cases h
  | .lst _ :: _, _, h => by cases h
  | .dct _ :: _, _, h => by cases h
  | .ref _ :: _, _, h => by cases h
  | .exc _ :: _, _, h => by cases h
  | .scr _ :: _, _, h => by cases h
theorem Rps.perm {K : PySem.W.Frag} {H : Hp} {A : Ads} {vs us : List V} (p : us.Perm vs) : ∀ {ds : List D}, Rps K H A ds vs → ∃ es, es.Perm ds ∧ Rps K H A es us := by
  induction p with
  | nil => exact fun {ds} h => ⟨ds, List.Perm.refl _, h⟩
  | cons x p ih =>
    intro ds h
    cases ds with
    | nil => unfold Rps at h; cases h
    | cons d ds =>
      obtain ⟨v, r, e, h1, h2⟩ := h.inv
      cases e
      obtain ⟨es, p1, p2⟩ := ih h2
      exact ⟨d :: es, p1.cons d, .cons h1 p2⟩
  | swap x y l =>
    intro ds h
    cases ds with
    | nil => unfold Rps at h; cases h
    | cons d ds =>
      obtain ⟨v, r, e, h1, h2⟩ := h.inv
      cases e
      cases ds with
      | nil => unfold Rps at h2; cases h2
      | cons d2 ds =>
        obtain ⟨v, r, e, h3, h4⟩ := h2.inv
        cases e
        exact ⟨d2 :: d :: ds, List.Perm.swap d d2 ds, .cons h3 (.cons h1 h4)⟩
  | trans p q ih1 ih2 =>
    intro ds h
    obtain ⟨es, p1, r1⟩ := ih2 h
    obtain ⟨fs, p2, r2⟩ := ih1 r1
    exact ⟨fs, p2.trans p1, r2⟩
theorem lexLt_irr : ∀ t : List Int, HT.lexLt t t = false
  | [] => rfl
  | x :: xs => by rw [HT.lexLt_cons, if_pos rfl]; exact lexLt_irr xs
theorem lexLt_tri : ∀ {t u : List Int}, HT.lexLt t u = false → HT.lexLt u t = false → t = u
  | [], [], _, _ => rfl
  | [], _ :: _, h, _ => by cases h
  | _ :: _, [], _, h => by cases h
  | x :: xs, y :: ys, h1, h2 => by
    rw [HT.lexLt_cons] at h1 h2
    by_cases e : x = y
    · subst e
      rw [if_pos rfl] at h1 h2
      rw [lexLt_tri h1 h2]
    · rw [if_neg e] at h1
      rw [if_neg (fun z => e z.symm)] at h2
      have a := of_decide_eq_false h1
      have b := of_decide_eq_false h2
      omega
theorem lexLt_trans : ∀ {t u v : List Int}, HT.lexLt t u = true → HT.lexLt u v = true → HT.lexLt t v = true
  | [], [], _, h, _ => by cases h
  | [], _ :: _, [], _, h => by cases h
  | [], _ :: _, _ :: _, _, _ => rfl
  | _ :: _, [], _, h, _ => by cases h
  | _ :: _, _ :: _, [], _, h => by cases h
  | x :: xs, y :: ys, z :: zs, h1, h2 => by
    rw [HT.lexLt_cons] at h1 h2 ⊢
    by_cases e : x = y
    · subst e
      rw [if_pos rfl] at h1
      by_cases f : x = z
      · subst f
        rw [if_pos rfl] at h2 ⊢
        exact lexLt_trans h1 h2
      · rw [if_neg f] at h2 ⊢
        exact h2
    · rw [if_neg e] at h1
      have a := of_decide_eq_true h1
      by_cases f : y = z
      · subst f
        rw [if_neg e]
        exact h1
      · rw [if_neg f] at h2
        have b := of_decide_eq_true h2
        rw [if_neg (by omega)]
        exact decide_eq_true (by omega)
theorem lexLt_asym {t u : List Int} (h : HT.lexLt t u = true) : HT.lexLt u t = false := by
  cases q : HT.lexLt u t with
  | false => rfl
  | true => have := lexLt_trans h q; rw [lexLt_irr] at this; cases this
/-- not behind -/
def LeT (t u : List Int) : Prop := HT.lexLt u t = false
theorem leT_trans {t u v : List Int} (h1 : LeT t u) (h2 : LeT u v) : LeT t v := by
  unfold LeT at h1 h2 ⊢
  cases q : HT.lexLt v t with
  | false => rfl
  | true =>
    cases p : HT.lexLt t u with
    | true => have := lexLt_trans q p; rw [h2] at this; cases this
    | false =>
      have e := lexLt_tri p h1
      subst e
      rw [h2] at q; cases q
theorem insT_perm (t : List Int) : ∀ l, (insT t l).Perm (t :: l)
  | [] => List.Perm.refl _
  | u :: r => by
    unfold insT
    split
    · exact ((insT_perm t r).cons u).trans (List.Perm.swap t u r)
    · exact List.Perm.refl _
theorem sortT_perm : ∀ l, (sortT l).Perm l
  | [] => List.Perm.refl _
  | t :: r => (insT_perm t (sortT r)).trans ((sortT_perm r).cons t)
theorem insT_sorted (t : List Int) : ∀ l : List (List Int), l.Pairwise LeT → (insT t l).Pairwise LeT
  | [], _ => List.pairwise_singleton _ _
  | u :: r, h => by
    have h1 := List.pairwise_cons.mp h
    unfold insT
    split
    · rename_i hu
      refine List.pairwise_cons.mpr ⟨fun a ha => ?_, insT_sorted t r h1.2⟩
      rcases List.mem_cons.mp ((insT_perm t r).mem_iff.mp ha) with rfl | ha
      · exact lexLt_asym hu
      · exact h1.1 a ha
    · rename_i hu
      have hu : LeT t u := by unfold LeT; simpa using hu
      refine List.pairwise_cons.mpr ⟨fun a ha => ?_, h⟩
      rcases List.mem_cons.mp ha with rfl | ha
      · exact hu
      · exact leT_trans hu (h1.1 a ha)
theorem sortT_sorted : ∀ l : List (List Int), (sortT l).Pairwise LeT
  | [] => List.Pairwise.nil
  | t :: r => insT_sorted t _ (sortT_sorted r)
theorem sortedT_uni : ∀ {l m : List (List Int)}, l.Perm m → l.Pairwise LeT → m.Pairwise LeT → l = m
  | [], m, p, _, _ => (List.Perm.nil_eq p)
  | a :: l, [], p, _, _ => nomatch (List.Perm.length_eq p)
  | a :: l, b :: m, p, h1, h2 => by
    have hab : a = b := by
      have m1 : a ∈ b :: m := p.mem_iff.mp List.mem_cons_self
      have m2 : b ∈ a :: l := p.mem_iff.mpr List.mem_cons_self
      rcases List.mem_cons.mp m1 with e | m1
      · exact e
      · rcases List.mem_cons.mp m2 with e | m2
        · exact e.symm
        · exact lexLt_tri ((List.pairwise_cons.mp h2).1 a m1) ((List.pairwise_cons.mp h1).1 b m2)
    subst hab
    rw [sortedT_uni (List.perm_cons a |>.mp p) (List.pairwise_cons.mp h1).2 (List.pairwise_cons.mp h2).2]
theorem lex_code {B : Int} : ∀ {t u : List Int}, t.length = u.length → TS.Bd B t → TS.Bd B u → HT.lexLt t u = true → TS.code B t < TS.code B u
  | [], [], _, _, _, h => by cases h
  | [], _ :: _, hl, _, _, _ => by cases hl
  | _ :: _, [], hl, _, _, _ => by cases hl
  | x :: xs, y :: ys, hl, h1, h2, h => by
    have hl' : xs.length = ys.length := Nat.succ.inj hl
    rw [HT.lexLt_cons] at h
    by_cases e : x = y
    · subst e
      rw [if_pos rfl] at h
      exact (TS.code_same hl').mpr (lex_code hl' h1.tail h2.tail h)
    · rw [if_neg e] at h
      exact TS.code_lt hl' h1.tail h2.tail (of_decide_eq_true h)
theorem code_le {B : Int} {t u : List Int} (hl : t.length = u.length) (h1 : TS.Bd B t) (h2 : TS.Bd B u) (h : TS.code B t ≤ TS.code B u) : LeT t u := by
  unfold LeT
  cases q : HT.lexLt u t with
  | false => rfl
  | true => have := lex_code hl.symm h2 h1 q; omega
theorem sameT_of {ts : List (List Int)} (h : sameT ts = true) : ∃ d, 1 ≤ d ∧ ∀ t ∈ ts, t.length = d ∧ TS.Bd SB t := by
  cases ts with
  | nil => exact ⟨1, Nat.le_refl _, fun t h => nomatch h⟩
  | cons t r =>
    unfold sameT at h
    rw [Bool.and_eq_true, List.all_eq_true] at h
    obtain ⟨h1, h2⟩ := h
    refine ⟨t.length, ?_, fun u hu => ?_⟩
    · cases t with
      | nil => cases h1
      | cons x xs => exact Nat.succ_le_succ (Nat.zero_le _)
    · have := h2 u hu
      rw [Bool.and_eq_true, List.all_eq_true] at this
      refine ⟨by simpa using this.1, fun m hm => ?_⟩
      have := this.2 m hm
      rw [Bool.and_eq_true] at this
      exact ⟨of_decide_eq_true this.1, of_decide_eq_true this.2⟩
theorem tupI_of {K : PySem.W.Frag} {H : Hp} {A : Ads} {t : List Int} {v : V} (r : Rp K H A (.tup (t.map D.int)) v) : TupI K H v t := by
  obtain ⟨a, vs, rfl, h1, h2⟩ := r.tup
  have e := rps_of_ints h2
  subst e
  exact ⟨a, rfl, h1⟩
theorem rps_mem {K : PySem.W.Frag} {H : Hp} {A : Ads} : ∀ {ds : List D} {vs : List V} {v : V}, Rps K H A ds vs → v ∈ vs → ∃ d ∈ ds, Rp K H A d v
  | [], _, v, h, m => by unfold Rps at h; subst h; cases m
  | d :: ds, _, v, h, m => by
    obtain ⟨w, r, rfl, h1, h2⟩ := h.inv
    rcases List.mem_cons.mp m with rfl | m
    · exact ⟨d, List.mem_cons_self, h1⟩
    · obtain ⟨e, he, hr⟩ := rps_mem h2 m
      exact ⟨e, List.mem_cons_of_mem _ he, hr⟩
theorem rps_pair {K : PySem.W.Frag} {H : Hp} {A : Ads} {B : Int} : ∀ {ts : List (List Int)} {vs : List V}, Rps K H A (ts.map fun t => D.tup (t.map D.int)) vs → vs.Pairwise (fun x y => ∀ n m, TupI K H x n → TupI K H y m → TS.code B n ≤ TS.code B m) → ts.Pairwise fun n m => TS.code B n ≤ TS.code B m
  | [], _, _, _ => List.Pairwise.nil
  | t :: ts, _, h, p => by
    obtain ⟨v, r, rfl, h1, h2⟩ := Rps.inv h
    obtain ⟨p1, p2⟩ := List.pairwise_cons.mp p
    refine List.pairwise_cons.mpr ⟨fun u hu => ?_, rps_pair h2 p2⟩
    obtain ⟨i, hi⟩ := List.getElem?_of_mem hu
    obtain ⟨w, hw, rw_⟩ := h2.get (i := i) (d := D.tup (u.map D.int)) (by rw [List.getElem?_map, hi]; rfl)
    exact p1 w (List.mem_of_getElem? hw) t u (tupI_of h1) (tupI_of rw_)
theorem perm_tups : ∀ {es : List D} {ts : List (List Int)}, es.Perm (ts.map fun t => D.tup (t.map D.int)) → ∃ us : List (List Int), us.Perm ts ∧ es = us.map fun t => D.tup (t.map D.int) := by
  intro es ts p
  generalize hm : (ts.map fun t => D.tup (t.map D.int)) = ms at p
  induction p generalizing ts with
  | nil => cases ts with
    | nil => exact ⟨[], List.Perm.refl _, rfl⟩
    | cons t r => cases hm
  | cons x p ih =>
    cases ts with
    | nil => cases hm
    | cons t r =>
      rw [List.map_cons] at hm
      cases hm
      obtain ⟨us, p1, rfl⟩ := ih rfl
      exact ⟨t :: us, p1.cons t, rfl⟩
  | swap x y l =>
    cases ts with
    | nil => cases hm
    | cons t r =>
      cases r with
      | nil => cases hm
      | cons t2 r =>
        rw [List.map_cons, List.map_cons] at hm
        cases hm
        exact ⟨t2 :: t :: r, List.Perm.swap t t2 r, rfl⟩
  | trans p q ih1 ih2 =>
    obtain ⟨us, p1, rfl⟩ := ih2 hm
    obtain ⟨ws, p2, rfl⟩ := ih1 rfl
    exact ⟨ws, p2.trans p1, rfl⟩
theorem call_sortedD : CallR X (.builtin "sorted") (rBl X.K sortedD) := CallR.by fun xs H Q ⟨A, S, ds, z, s, rr, hf, ho⟩ => by
  unfold sortedD at hf
  split at hf
  · split at hf
    · rename_i ys e1
      split at hf
      · rename_i hl
        split at hf
        · rename_i ns h1
          cases hf
          obtain ⟨v, rfl, r⟩ := rps1 rr
          obtain ⟨a, vs, rfl, h4, h5⟩ := view_lst s r e1
          have e3 := ints_of h1
          subst e3
          have e2 := rps_of_ints h5
          subst e2
          refine ⟨_, cr_sorted, a, ns, rfl, SqL.of h4, by simpa using hl, fun ns' p hp hs hn => ?_⟩
          have e : ns' = sortI ns := sorted_uni (hp.trans (sortI_perm ns).symm) hs (sortI_sorted ns)
          subst e
          exact ho.lstN s (rps_ints _) hn
        · split at hf
          · rename_i ts h1
            split at hf
            · rename_i hsame
              cases hf
              obtain ⟨v, rfl, r⟩ := rps1 rr
              obtain ⟨a, vs, rfl, h4, h5⟩ := view_lst s r e1
              have e3 := tups_of h1
              subst e3
              obtain ⟨d, hd, hts⟩ := sameT_of hsame
              refine ⟨_, cr_sortT (d := d) (B := SB) hd, a, vs, rfl, SqL.of h4, by rw [← h5.length]; exact hl, fun x hx => ?_, fun us p hp hs hn => ?_⟩
              · obtain ⟨e, he, hr⟩ := rps_mem h5 hx
                obtain ⟨t, ht, rfl⟩ := List.mem_map.mp he
                exact ⟨t, tupI_of hr, (hts t ht).1, (hts t ht).2⟩
              · obtain ⟨es, p1, r1⟩ := Rps.perm hp h5
                obtain ⟨ws, p2, rfl⟩ := perm_tups p1
                have hp2 := rps_pair r1 hs
                have e : ws = sortT ts := by
                  refine sortedT_uni (p2.trans (sortT_perm ts).symm) ?_ (sortT_sorted ts)
                  refine List.Pairwise.imp_of_mem (fun {n m} hn hm hle => ?_) hp2
                  have b1 := hts n (p2.mem_iff.mp hn)
                  have b2 := hts m (p2.mem_iff.mp hm)
                  exact code_le (b1.1.trans b2.1.symm) b1.2 b2.2 hle
                subst e
                exact ho.lstN s r1 hn
            · cases hf
          · cases hf
      · cases hf
    · cases hf
  · cases hf
theorem call_tupleD : CallR X (.type "tuple") (rBl X.K tupleD) := CallR.by fun xs H Q ⟨A, S, ds, z, s, rr, hf, ho⟩ => by
  unfold tupleD at hf
  split at hf
  · obtain ⟨v, rfl, r⟩ := rps1 rr
    split at hf
    · rename_i ys e1
      cases hf
      obtain ⟨a, vs, rfl, h4, h5⟩ := view_lst s r e1
      exact ⟨_, call_tuple_of, a, vs, rfl, .inl ⟨SqL.of h4, fun p hp => ho.tupN s h5 hp⟩⟩
    · rename_i ys e1
      cases hf
      have e2 := view_tup e1
      subst e2
      obtain ⟨a, vs, rfl, h4, h5⟩ := r.tup
      exact ⟨_, call_tuple_of, a, vs, rfl, .inr ⟨h4, ho.here s (rp_tup h4 h5)⟩⟩
    · cases hf
  · cases hf
theorem call_listD : CallR X (.type "list") (rBl X.K listD) := CallR.by fun xs H Q ⟨A, S, ds, z, s, rr, hf, ho⟩ => by
  unfold listD at hf
  split at hf
  · obtain ⟨v, rfl, r⟩ := rps1 rr
    split at hf
    · rename_i ys e1
      cases hf
      obtain ⟨a, vs, rfl, h4, h5⟩ := view_lst s r e1
      exact ⟨_, call_list_of, a, vs, rfl, .inl (SqL.of h4), fun p hp => ho.lstN s h5 hp⟩
    · rename_i ys e1
      cases hf
      have e2 := view_tup e1
      subst e2
      obtain ⟨a, vs, rfl, h4, h5⟩ := r.tup
      exact ⟨_, call_list_of, a, vs, rfl, .inr h4, fun p hp => ho.lstN s h5 hp⟩
    · cases hf
  · cases hf
theorem call_intD : CallR X (.type "int") (rBl X.K fun _ => intD) := CallR.by fun xs H Q ⟨A, S, ds, z, s, rr, hf, ho⟩ => by
  have hf : intD ds = some z := hf
  unfold intD at hf
  split at hf
  · cases hf
    obtain ⟨v, rfl, r⟩ := rps1 rr
    rw [r.int]
    exact ⟨_, call_int1, .inl ⟨_, rfl, ho.here s rp_int⟩⟩
  · cases hf
    obtain ⟨v, rfl, r⟩ := rps1 rr
    rw [r.bl]
    exact ⟨_, call_int1, .inr ⟨_, rfl, ho.here s rp_int⟩⟩
  · cases hf
theorem call_strD : CallR X (.type "str") (rBl X.K fun _ => strOfD) := CallR.by fun xs H Q ⟨A, S, ds, z, s, rr, hf, ho⟩ => by
  have hf : strOfD ds = some z := hf
  unfold strOfD at hf
  split at hf
  · split at hf
    · rename_i hl
      cases hf
      obtain ⟨v, rfl, r⟩ := rps1 rr
      rw [r.int]
      exact ⟨_, call_str_int, _, rfl, hl, ho.here s rp_str⟩
    · cases hf
  · cases hf
end
end Rs
end

section
set_option Elab.async false
set_option linter.all false
set_option maxRecDepth 100000
set_option maxHeartbeats 1000000
set_option autoImplicit false
/-! RsOps3: kinds, texts of data, methods, truth, by values. Own work. -/
namespace Rs
open PySem PySem.Spec PyProof.Rows L2
section
variable {X : Cx} {pins : List (Addr × Obj)} {σ : L2.St} {s : Shared} {H : Hp} {A : Ads} {S : Store}

/-! ### isinstance -/
def tyn : D → String
  | .non => "NoneType"
  | .bl _ => "bool"
  | .int _ => "int"
  | .str _ => "str"
  | .tup _ => "tuple"
  | .lst _ => "list"
  | .scr _ => "list"
  | .dct _ => "dict"
  | _ => ""
def tyName : Ty → String
  | .int => "int"
  | .bool => "bool"
  | .str => "str"
  | .tup => "tuple"
  | .lst => "list"
  | .own _ => ""
theorem view_self {d : D} (h : ∀ k, d ≠ .ref k) : view S d = d := by
  cases d <;> first | rfl | exact absurd rfl (h _)
theorem view_eq {d e : D} (h : view S d = e) (n : ∀ xs, e ≠ .lst xs) (m : ∀ k, e ≠ .ref k) : d = e := by
  cases d with
  | ref k =>
    have h : (match S[k]? with
      | some (.lst xs) => D.lst xs
      | _ => D.ref k) = e := h
    split at h
    · exact absurd h.symm (n _)
    · exact absurd h.symm (m _)
  | _ => exact h
theorem kit_rp (I : Inv X pins σ H s) (sr : SR X.K H A S) {d : D} {x : V} {u : Value} (r : Rp X.K H A d x) (ru : RelV x u) (n1 : ∀ k, view S d ≠ .ref k) (n2 : ∀ c, view S d ≠ .exc c) :
    ∃ P : Heap → Prop, PySem.W.KitX X.K u (.type (tyn (view S d))) P ∧ P s.heap ∧ u ≠ .builtin "__main__.__loader__#opaque" := by
  have lst : ∀ {ds : List D}, view S d = .lst ds → ∃ P : Heap → Prop, PySem.W.KitX X.K u (.type "list") P ∧ P s.heap ∧ u ≠ .builtin "__main__.__loader__#opaque" := fun e => by
    obtain ⟨a, vs, rfl, h1, h2⟩ := view_lst sr r e
    cases ru
    obtain ⟨_, _, n, _, h3⟩ := I.hok a _ h1
    exact ⟨_, PySem.W.kitx_list, ⟨_, h3, rfl⟩, fun z => nomatch z⟩
  cases e : view S d with
  | lst ds => exact lst e
  | ref k => exact absurd e (n1 k)
  | exc c => exact absurd e (n2 c)
  | non =>
    have h : d = .non := view_eq e (fun _ q => nomatch q) (fun _ q => nomatch q)
    subst h
    have := r.non
    subst this
    cases (show u = Value.none from ru)
    exact ⟨_, PySem.W.kitx_none, True.intro, fun z => nomatch z⟩
  | bl b =>
    have h : d = .bl b := view_eq e (fun _ q => nomatch q) (fun _ q => nomatch q)
    subst h
    have := r.bl
    subst this
    cases (show u = Value.bool b from ru)
    exact ⟨_, PySem.W.kitx_bool, True.intro, fun z => nomatch z⟩
  | int i =>
    have h : d = .int i := view_eq e (fun _ q => nomatch q) (fun _ q => nomatch q)
    subst h
    have := r.int
    subst this
    obtain ⟨t, q⟩ := (show ∃ t, u = Value.int i t from ru)
    cases q
    exact ⟨_, PySem.W.kitx_int, True.intro, fun z => nomatch z⟩
  | str i =>
    have h : d = .str i := view_eq e (fun _ q => nomatch q) (fun _ q => nomatch q)
    subst h
    have := r.str
    subst this
    obtain ⟨t, q⟩ := (show ∃ t, u = Value.str i t from ru)
    cases q
    exact ⟨_, PySem.W.kitx_str, True.intro, fun z => nomatch z⟩
  | tup ds =>
    have h := view_tup e
    subst h
    obtain ⟨a, vs, rfl, h1, _⟩ := r.tup
    cases ru
    obtain ⟨its, _, ⟨o, ho, hc, _⟩, _⟩ := I.tuple h1
    exact ⟨_, PySem.W.kitx_tuple, ⟨o, ho, hc⟩, fun z => nomatch z⟩
  | scr ns =>
    have h := view_scr e
    subst h
    obtain ⟨a, rfl, h1⟩ := r.scr
    cases ru
    obtain ⟨its, _, pl, _⟩ := I.list h1
    obtain ⟨o, ho, hc, _⟩ := pl.isList
    exact ⟨_, PySem.W.kitx_list, ⟨o, ho, hc⟩, fun z => nomatch z⟩
  | dct kvs =>
    have h : d = .dct kvs := view_eq e (fun _ q => nomatch q) (fun _ q => nomatch q)
    subst h
    unfold Rp at r
    obtain ⟨a, rfl, _, r⟩ := r
    cases ru
    rcases r with ⟨kv, h1, _⟩ | ⟨kv, h1, _⟩
    · obtain ⟨_, _, vs, _, o, es, ep, h3, h4, _⟩ := h1.ok I.hok
      exact ⟨_, PySem.W.kitx_dict, ⟨o, h3, h4.1⟩, fun z => nomatch z⟩
    · obtain ⟨_, _, vs, _, o, es, ep, h3, h4, _⟩ := h1.ok I.hok
      exact ⟨_, PySem.W.kitx_dict, ⟨o, h3, h4.1⟩, fun z => nomatch z⟩
theorem isi_tab {f : Str → Str → Option Bool} {d : D} {t : Ty} {z : Bool} (h : isi S f d t = some z) :
    (∀ k, view S d ≠ .ref k) ∧ (∀ c, view S d ≠ .exc c) ∧ kitB (tyn (view S d)) (tyName t) = some z := by
  unfold isi at h
  cases t with
  | own c => cases h
  | int => cases e : view S d <;> rw [e] at h <;> cases h <;> exact ⟨(fun _ q => nomatch q), (fun _ q => nomatch q), by simp only [tyn, tyName]; decide +kernel⟩
  | bool => cases e : view S d <;> rw [e] at h <;> cases h <;> exact ⟨(fun _ q => nomatch q), (fun _ q => nomatch q), by simp only [tyn, tyName]; decide +kernel⟩
  | str => cases e : view S d <;> rw [e] at h <;> cases h <;> exact ⟨(fun _ q => nomatch q), (fun _ q => nomatch q), by simp only [tyn, tyName]; decide +kernel⟩
  | tup => cases e : view S d <;> rw [e] at h <;> cases h <;> exact ⟨(fun _ q => nomatch q), (fun _ q => nomatch q), by simp only [tyn, tyName]; decide +kernel⟩
  | lst => cases e : view S d <;> rw [e] at h <;> cases h <;> exact ⟨(fun _ q => nomatch q), (fun _ q => nomatch q), by simp only [tyn, tyName]; decide +kernel⟩
def rIsiD (K : PySem.W.Frag) (f : Str → Str → Option Bool) (t : Ty) : List V → Hp → VK → Prop := fun xs H Q => ∃ A S d x z, xs = [x, .ty (tyName t)] ∧ SR K H A S ∧ Rp K H A d x ∧ isi S f d t = some z ∧ Q (.bl z) H
theorem call_isiD (f : Str → Str → Option Bool) (t : Ty) : CallR X (.builtin "isinstance") (rIsiD X.K f t) := by
  intro pins s σ H xs us Q I r h
  obtain ⟨A, S, d, x, z, rfl, sr, hr, hf, q⟩ := h
  obtain ⟨u1, u2, rfl, r1, r2⟩ := vals2 r
  cases (show u2 = Value.type (tyName t) from r2)
  obtain ⟨n1, n2, e⟩ := isi_tab hf
  obtain ⟨P, Z, p, hx⟩ := kit_rp I sr hr r1 n1 n2
  exact PySem.W.kia_one Z I.kIn p (kit_ty e) hx fun tk => ⟨.bl z, H, I.tok tk, rfl, q⟩

/-! ### repr -/
/-- sys.modules is a dict: no list lies there -/
def SysM (K : PySem.W.Frag) : Prop := ∃ o, K.lookup sysModules = some o ∧ o.cls = .type "dict"
mutual
theorem reads_of (I : Inv X pins σ H s) (sm : SysM X.K) : ∀ (d : D) (n : Nat) (v : V) (u : Value), shw n d = true → Rp X.K H A d v → RelV v u → ∃ as, Reads s.heap u (toPy d) as ∧ sysModules ∉ as
  | .non, _, _, _, _, r, ru => by
    have := r.non; subst this
    cases (show _ = Value.none from ru)
    exact ⟨_, .none, by simp⟩
  | .bl b, _, _, _, _, r, ru => by
    have := r.bl; subst this
    cases (show _ = Value.bool b from ru)
    exact ⟨_, .bool b, by simp⟩
  | .int i, _, _, _, _, r, ru => by
    have := r.int; subst this
    obtain ⟨t, rfl⟩ := (show ∃ t, _ = Value.int i t from ru)
    exact ⟨_, .int i t, by simp⟩
  | .str x, _, _, _, _, r, ru => by
    have := r.str; subst this
    obtain ⟨t, rfl⟩ := (show ∃ t, _ = Value.str x t from ru)
    exact ⟨_, .str x t, by simp⟩
  | .tup xs, n, _, _, h, r, ru => by
    obtain ⟨a, vs, rfl, h1, h2⟩ := r.tup
    cases ru
    cases n with
    | zero => cases h
    | succ n =>
      obtain ⟨its, rv, ⟨o, ho, hc, m, hd⟩, _⟩ := I.tuple h1
      obtain ⟨as, q1, q2⟩ := readss_of I sm xs n vs its h h2 rv
      exact ⟨as, .tuple ho hc hd q1, q2⟩
  | .lst xs, n, _, _, h, r, ru => by
    obtain ⟨a, vs, rfl, h1, _, h2⟩ := r.lst
    cases ru
    cases n with
    | zero => cases h
    | succ n =>
      obtain ⟨its, rv, ⟨o, m, ho, hc, _, hd⟩, _⟩ := I.list (SqL.of h1)
      obtain ⟨as, q1, q2⟩ := readss_of I sm xs n vs its h h2 rv
      refine ⟨a :: as, .list ho hc hd q1, fun z => ?_⟩
      rcases List.mem_cons.mp z with z | z
      · obtain ⟨o', h3, h4⟩ := sm
        have h5 := I.kIn _ _ h3
        rw [z, ho] at h5
        cases h5
        rw [hc] at h4
        exact absurd h4 (by decide)
      · exact q2 z
  | .dct kvs, n, _, _, h, r, ru => by
    have e : kvs = [] := by
      cases kvs with
      | nil => rfl
      | cons _ _ => cases n <;> cases h
    subst e
    unfold Rp at r
    obtain ⟨a, rfl, _, r⟩ := r
    cases ru
    rcases r with ⟨kv, h1, h2⟩ | ⟨kv, h1, h2⟩
    · unfold RpK at h2
      subst h2
      obtain ⟨_, hs, vs, kv, o, es, ep, h3, h4, h5, _, h6, _⟩ := h1.ok I.hok
      cases kv
      have h6 : es.toList = [] := by
        cases h7 : es.toList with
        | nil => rfl
        | cons _ _ => rw [h7] at h6; cases h6
      refine ⟨a :: [] ++ [], .dict h3 h4.1 h5 (by rw [h6]; exact .nil) (by rw [h6]; exact .nil), ?_⟩
      simp only [List.append_nil, List.mem_singleton]
      exact fun z => (beq_eq_false_iff_ne.mp hs) z.symm
    · unfold RpT at h2
      subst h2
      obtain ⟨_, hs, xs, pr, o, es, ep, h3, h4, h5, h6, _⟩ := h1.ok I.hok
      cases pr
      have h6 : es.toList = [] := h6
      refine ⟨a :: [] ++ [], .dict h3 h4.1 h5 (by rw [h6]; exact .nil) (by rw [h6]; exact .nil), ?_⟩
      simp only [List.append_nil, List.mem_singleton]
      exact fun z => (beq_eq_false_iff_ne.mp hs) z.symm
  | .ref _, n, _, _, h, _, _ => by cases n <;> cases h
  | .exc _, n, _, _, h, _, _ => by cases n <;> cases h
  | .scr _, n, _, _, h, _, _ => by cases n <;> cases h
theorem readss_of (I : Inv X pins σ H s) (sm : SysM X.K) : ∀ (xs : List D) (n : Nat) (vs : List V) (us : List Value), xs.all (shw n) = true → Rps X.K H A xs vs → Vals vs us → ∃ as, ReadsAll s.heap us (toPys xs) as ∧ sysModules ∉ as
  | [], _, _, _, _, r, ru => by
    unfold Rps at r
    subst r
    cases ru
    exact ⟨_, .nil, by simp⟩
  | x :: xs, n, _, _, h, r, ru => by
    rw [List.all_cons, Bool.and_eq_true] at h
    obtain ⟨v, vs, rfl, h1, h2⟩ := r.inv
    cases ru with
    | cons r1 r2 =>
      obtain ⟨as, q1, q2⟩ := reads_of I sm x n v _ h.1 h1 r1
      obtain ⟨bs, q3, q4⟩ := readss_of I sm xs n vs _ h.2 h2 r2
      refine ⟨_, .cons q1 q3, fun z => ?_⟩
      rcases List.mem_append.mp z with z | z
      · exact q2 z
      · exact q4 z
end
theorem log_1900 {i : Nat} (h : i < 2 ^ 1900) : i.log2 < 1920 := Nat.lt_of_lt_of_le (PySem.Flt.log2_lt_of (by decide) h) (by decide)
mutual
theorem show_py : ∀ (d : D) (n : Nat), shw n d = true → (toPy d).showable = true ∧ (toPy d).depth ≤ n + 1
  | .non, _, _ => ⟨rfl, Nat.zero_le _⟩
  | .bl _, _, _ => ⟨rfl, Nat.zero_le _⟩
  | .str x, n, h => ⟨rfl, Nat.zero_le _⟩
  | .int i, n, h => by
    have h : decide (i.natAbs < 2 ^ 1900) = true := by cases n <;> exact h
    exact ⟨decide_eq_true (log_1900 (of_decide_eq_true h)), Nat.zero_le _⟩
  | .tup xs, n, h => by
    cases n with
    | zero => cases h
    | succ n =>
      obtain ⟨h1, h2⟩ := shows_py xs n h
      exact ⟨h1, Nat.succ_le_succ h2⟩
  | .lst xs, n, h => by
    cases n with
    | zero => cases h
    | succ n =>
      obtain ⟨h1, h2⟩ := shows_py xs n h
      exact ⟨h1, Nat.succ_le_succ h2⟩
  | .dct kvs, n, h => ⟨rfl, Nat.succ_le_succ (Nat.zero_le _)⟩
  | .ref _, n, h => by cases n <;> cases h
  | .exc _, n, h => by cases n <;> cases h
  | .scr _, n, h => by cases n <;> cases h
theorem shows_py : ∀ (xs : List D) (n : Nat), xs.all (shw n) = true → PyData.showableAll (toPys xs) = true ∧ PyData.depthAll (toPys xs) ≤ n + 1
  | [], _, _ => ⟨rfl, Nat.zero_le _⟩
  | x :: xs, n, h => by
    rw [List.all_cons, Bool.and_eq_true] at h
    obtain ⟨h1, h2⟩ := show_py x n h.1
    obtain ⟨h3, h4⟩ := shows_py xs n h.2
    unfold toPys PyData.showableAll PyData.depthAll
    exact ⟨by rw [h1, h3]; rfl, Nat.max_le.mpr ⟨h2, h4⟩⟩
end
theorem view_ref (S : Store) (k : Nat) : (∃ xs, view S (.ref k) = .lst xs) ∨ view S (.ref k) = .ref k := by
  show (∃ xs, (match S[k]? with
      | some (.lst xs) => D.lst xs
      | _ => D.ref k) = .lst xs) ∨ (match S[k]? with
      | some (.lst xs) => D.lst xs
      | _ => D.ref k) = .ref k
  cases S[k]? with
  | none => exact .inr rfl
  | some c => cases c <;> first | exact .inl ⟨_, rfl⟩ | exact .inr rfl
theorem view_noref {k : Nat} {n : Nat} {d : D} (h : shw n (view S d) = true) : view S d ≠ .ref k := fun e => by rw [e] at h; cases n <;> cases h
theorem view_reads (I : Inv X pins σ H s) (sm : SysM X.K) (sr : SR X.K H A S) {d : D} {v : V} {u : Value} {n : Nat} (h : shw (n + 1) (view S d) = true) (r : Rp X.K H A d v) (ru : RelV v u) :
    ∃ as, Reads s.heap u (toPy (view S d)) as ∧ sysModules ∉ as := by
  by_cases hd : ∃ k, d = .ref k
  · obtain ⟨k, rfl⟩ := hd
    rcases view_ref S k with ⟨xs, e⟩ | e
    · obtain ⟨a, vs, rfl, h1, h2⟩ := view_lst sr r e
      cases ru
      obtain ⟨its, rv, ⟨o, m, ho, hc, _, hd⟩, _⟩ := I.list (SqL.of h1)
      rw [e] at h ⊢
      obtain ⟨as, q1, q2⟩ := readss_of I sm xs n vs its h h2 rv
      refine ⟨a :: as, .list ho hc hd q1, fun z => ?_⟩
      rcases List.mem_cons.mp z with z | z
      · obtain ⟨o', h3, h4⟩ := sm
        have h5 := I.kIn _ _ h3
        rw [z, ho] at h5
        cases h5
        rw [hc] at h4
        exact absurd h4 (by decide)
      · exact q2 z
    · rw [e] at h
      cases h
  · have e : view S d = d := view_self fun k e => hd ⟨k, e⟩
    rw [e] at h ⊢
    exact reads_of I sm d _ v u h r ru
theorem call_reprD (sm : SysM X.K) (hg : X.A.guards = some []) (hu : X.A.units + 65 < cLine) : CallR X (.builtin "repr") (rBl X.K reprD) := by
  intro pins s σ H xs us Q I ru h
  obtain ⟨A, S, ds, z, sr, rr, hf, ho⟩ := h
  unfold reprD at hf
  split at hf
  · split at hf
    · rename_i d hl
      cases hf
      rw [Bool.and_eq_true, decide_eq_true_eq] at hl
      obtain ⟨v, rfl, r⟩ := rps1 rr
      obtain ⟨u, rfl, r1⟩ := vals1 ru
      obtain ⟨as, h1, h2⟩ := view_reads I sm sr (n := 29) hl.1 r r1
      clear ru r1
      obtain ⟨h3, h4⟩ := show_py _ _ hl.1
      have hsz := lim_size hl.2
      have fin : ∀ (h' : Heap) (t : Tok) (tk : Nat), (∀ b o, s.heap.get? b = some o → h'.get? b = some o) → EP X pins σ Q (.str (toPy (view S d)).shown t) { s with heap := h', toks := tk } := fun h' t tk k =>
        ⟨.str _, H, I.kept (t' := tk) k, ⟨t, rfl⟩, ho.here sr rp_str⟩
      cases u with
      | ref a => exact repr_of_reads' h1 h3 (fun _ => h2) hg (by omega) (fun _ _ q => q) fun h' t tk k => fin h' t tk k
      | none =>
        generalize toPy (view S d) = p at h1 h3 fin hsz
        cases h1
        exact PySem.P.repr_of_none (fin s.heap _ _ fun _ _ q => q)
      | bool b =>
        generalize toPy (view S d) = p at h1 h3 fin hsz
        cases h1
        exact PySem.P.repr_of_bool (fin s.heap _ _ fun _ _ q => q)
      | int i t =>
        generalize toPy (view S d) = p at h1 h3 fin hsz
        cases h1
        exact PySem.P.repr_of_int (of_decide_eq_true h3) (fin s.heap _ _ fun _ _ q => q)
      | str x t =>
        generalize toPy (view S d) = p at h1 h3 fin hsz
        cases h1
        exact PySem.P.repr_of_str (fin s.heap _ _ fun _ _ q => q) hsz
      | _ =>
        generalize toPy (view S d) = p at h1
        cases h1
    · cases hf
  · cases hf

/-! ### methods -/
theorem evs_readsOf : ∀ {ds : List PyData} {its : List Value} {h : Heap} {as : List Addr}, PyData.canLayAll0 ds = true → ReadsAll h its ds as → its.map (SeqAt.readOf h) = ds := fun hc hr => SeqAt.readsAll_map _ _ _ hc hr
def rMt (K : PySem.W.Frag) (f : Store → D → List D → Option D) : V → List V → Hp → VK → Prop := fun x xs H Q => ∃ A S d ds z, SR K H A S ∧ Rp K H A d x ∧ Rps K H A ds xs ∧ f S d ds = some z ∧ Out K A H S z Q
theorem toPys_get : ∀ (xs : List D) (i : Nat), (toPys xs)[i]? = xs[i]?.map toPy
  | [], i => by cases i <;> rfl
  | x :: xs, 0 => rfl
  | x :: xs, i + 1 => by
    unfold toPys
    rw [List.getElem?_cons_succ, List.getElem?_cons_succ]
    exact toPys_get xs i
theorem toPys_map : ∀ xs : List D, toPys xs = xs.map toPy
  | [] => rfl
  | x :: xs => by unfold toPys; rw [toPys_map xs]; rfl
theorem mt_idxD (hu : X.A.units + 65 < cLine) : MtR X "list.index" (rMt X.K idxD) := by
  intro pins s σ H x xs v us Q I rx ru h
  obtain ⟨A, S, a, ds, z, sr, ra, rr, hf, ho⟩ := h
  unfold idxD at hf
  split at hf
  · rename_i ys d e1
    split at hf
    · rename_i hl
      rw [Bool.and_eq_true] at hl
      obtain ⟨j, h1, rfl⟩ := Option.map_eq_some_iff.mp hf
      obtain ⟨w, rfl, rd⟩ := rps1 rr
      obtain ⟨p, vs, rfl, h2, h3⟩ := view_lst sr ra e1
      obtain ⟨hj1, hj2, hj3⟩ := List.findIdx?_eq_some_iff_getElem.mp h1
      refine mt_indexD hu pins s σ H _ _ v us Q I rx ru ⟨p, w, toPy d, toPys ys, j, toPy ys[j], rfl, rfl, .lst (SqL.of h2) (dps_of ys _ vs hl.2 h3), dp_of d _ w hl.1 rd, (all_59 hl.2 (by decide)).2, shaped_py hl.1, ?_, ?_, ?_, ho.here sr rp_int⟩
      · rw [toPys_get, List.getElem?_eq_getElem hj1]; rfl
      · rw [← eqv_py _ _ _ _ (List.all_eq_true.mp hl.2 _ (List.getElem_mem hj1)) hl.1]
        exact hj2
      · intro m z' hm hz
        have hml : m < ys.length := by omega
        rw [toPys_get, List.getElem?_eq_getElem hml] at hz
        cases hz
        rw [← eqv_py _ _ _ _ (List.all_eq_true.mp hl.2 _ (List.getElem_mem hml)) hl.1]
        have := hj3 m hm
        simpa using this
    · cases hf
  · cases hf
theorem mt_cntD (hu : X.A.units + 65 < cLine) : MtR X "list.count" (rMt X.K cntD) := by
  intro pins s σ H x xs v us Q I rx ru h
  obtain ⟨A, S, a, ds, z, sr, ra, rr, hf, ho⟩ := h
  unfold cntD at hf
  split at hf
  · rename_i ys d e1
    split at hf
    · rename_i hl
      rw [Bool.and_eq_true] at hl
      cases hf
      obtain ⟨w, rfl, rd⟩ := rps1 rr
      obtain ⟨p, vs, rfl, h2, h3⟩ := view_lst sr ra e1
      cases rx
      obtain ⟨u, rfl, ru1⟩ := vals1 ru
      obtain ⟨bs, r1⟩ := Dp.reads I (toPy d) w u (dp_of d _ w hl.1 rd) ru1
      obtain ⟨hc, hdp⟩ := lays_py ys _ hl.2
      obtain ⟨hc1, hdp1⟩ := lay_py d _ hl.1
      obtain ⟨its, rv, ⟨⟨cls, dd, data, sls⟩, n, ho', hcl, hdn, hdt⟩, hlen⟩ := I.list (SqL.of h2)
      simp only at hcl hdt
      subst hcl hdt
      obtain ⟨as, h4⟩ := Dp.readsAll I _ _ its (dps_of ys _ vs hl.2 h3) rv
      have hmap : its.map (SeqAt.readOf s.heap) = toPys ys := SeqAt.readsAll_map _ its as hc h4
      have hroom : X.A.units + 1 + min (PyData.depthAll (toPys ys)) (toPy d).depth < cLine := by
        have : min (PyData.depthAll (toPys ys)) (toPy d).depth ≤ (toPy d).depth := Nat.min_le_right _ _
        have : (toPy d).depth ≤ 60 := hdp1
        omega
      refine call_meets PySem.F.slot_list_count ⟨_, ho', rfl⟩ PySem.F.entry_list_count (PySem.F.args_list_count_2 _ _)
        (SeqAt.list_countAt p its.toArray n dd sls u (fun q => PyData.eqv (SeqAt.readOf s.heap q) (toPy d))) ⟨ho', SeqAt.items_eqAt (vs := its.toArray) (show ReadsAll s.heap its.toArray.toList (toPys ys) as from h4) r1 hc hc1 hroom, ?_⟩
      have ec : its.toArray.toList.countP (fun q => PyData.eqv (SeqAt.readOf s.heap q) (toPy d)) = ys.countP fun y => eqv y d := by
        show its.countP ((fun q => PyData.eqv q (toPy d)) ∘ SeqAt.readOf s.heap) = _
        rw [← List.countP_map, hmap, toPys_map, List.countP_map]
        refine List.countP_congr fun y hy => ?_
        show PyData.eqv (toPy y) (toPy d) = true ↔ _
        rw [eqv_py _ _ _ _ (List.all_eq_true.mp hl.2 _ hy) hl.1]
      refine ⟨.int (ys.countP fun y => eqv y d : Nat), H, I.tok _, ⟨s.toks, ?_⟩, ho.here sr rp_int⟩
      show Value.int ((its.toArray.toList.countP (fun q => PyData.eqv (SeqAt.readOf s.heap q) (toPy d)) : Nat) : Int) s.toks = Value.int (((ys.countP fun y => eqv y d) : Nat) : Int) s.toks
      rw [ec]
    · cases hf
  · cases hf

/-! ### truth -/
theorem rps_empty : ∀ {ds : List D} {vs : List V}, Rps X.K H A ds vs → ds.isEmpty = vs.isEmpty
  | [], _, h => by unfold Rps at h; rw [h]; rfl
  | _ :: _, _, h => by
    obtain ⟨v, r, e, _⟩ := h.inv
    rw [e]
    rfl
theorem truth_of (sr : SR X.K H A S) {d : D} {v : V} {b : Bool} (r : Rp X.K H A d v) (h : truth S d = some b) : TruV X.K v H b := by
  unfold truth at h
  split at h
  · cases h; rw [r.non]; rfl
  · cases h; rw [r.bl]; rfl
  · cases h; rw [r.int]; rfl
  · split at h
    · rename_i hl
      cases h
      rw [r.str]
      exact ⟨lim_size hl, rfl⟩
    · cases h
  · cases h
    obtain ⟨a, vs, rfl, h1, h2⟩ := r.tup
    exact .inr (.inl ⟨vs, h1, by rw [rps_empty h2]⟩)
  · cases h
    obtain ⟨a, vs, rfl, h1, _, h2⟩ := r.lst
    exact .inl ⟨vs, SqL.of h1, by rw [rps_empty h2]⟩
  · rename_i k
    split at h
    · rename_i xs e
      cases h
      obtain ⟨a, vs, rfl, h1, h2⟩ := view_lst (xs := xs) sr r (by unfold view; simp only [e])
      exact .inl ⟨vs, SqL.of h1, by rw [rps_empty h2]⟩
    · cases h
  · cases h
end
end Rs
end

section
set_option Elab.async false
set_option linter.all false
set_option maxRecDepth 100000
set_option maxHeartbeats 1000000
set_option autoImplicit false
/-! RsCall: a def's promise where no text of data is being told (repr's guards), its calls, the head. Own work over HandS. -/
namespace Rs
open PySem PySem.Spec PyProof.Rows L2

/-- as FnOk, for calls where no guard stands -/
structure GOk (P : Program) (w : World) (K : PySem.W.Frag) (mg : Str → Option Value) (base : Heap) (k : Nat) (f : Addr) (fd : FuncData) (ps : List Str) (sp : Sp) : Prop where
  len : ∀ vs H Q E, sp vs H Q E → vs.length = ps.length
  run : ∀ (A : Around) (out : List Env) (s : Shared) (H : Hp) (args : Args) (us : List Value) (vs : List V) (Q : VK) (E : XK), Room k A → A.guards = some [] →
    Env0 P w K mg base A out s H → BindsTo s fd args (ps.zip us) → Vals vs us → sp vs H Q E →
    codeAny (model P w) A (.call (.ref f) args) (CR (L2.CX P w) out P w H s Q E) s

section
variable {X : Cx} {k : Nat} {f C : Addr} {fd : FuncData} {ps : List Str} {sp : Sp}
/-- a call of the value f -/
theorem run_G {pins : List (Addr × Obj)} {σ : L2.St} {H : Hp} {s : Shared} {Q : VK} {E : XK} {us : List Value} {vs : List V} {args : Args}
    (G : GOk X.prog X.w X.K X.mg X.base k f fd ps sp) (hr : Room k X.A) (hg : X.A.guards = some [])
    (hb : us.length = ps.length → BindsTo s fd args (ps.zip us)) (hx : PassesAt (L2.CX X.prog X.w) X σ E)
    (I : Inv X pins σ H s) (r : Vals vs us) (h : sp vs H Q E) : wpAny (model X.prog X.w) X.A (call (.ref f) args.pos args.kw) (EP X pins σ Q) X.xe s := by
  have hl : us.length = ps.length := by
    rw [← r.length]
    exact G.len _ _ _ _ h
  have ha : args = ⟨args.pos, args.kw⟩ := rfl
  refine wpAny_call (codeAny_mono (G.run X.A X.stack s H args us vs Q E hr hg I.env0 (hb hl) r h) fun res s' hq => ?_)
  cases res with
  | error e => exact hx pins H s e s' I hq
  | ok fl => cases fl <;> first | exact I.after hq | exact hq.elim
/-- how such a def binds its arguments -/
def BindsAll (K : PySem.W.Frag) (fd : FuncData) (ps : List Str) : Prop := ∀ us : List Value, us.length = ps.length → bindArgs fd ⟨us, []⟩ = pure (ps.zip us)
theorem BindsAll.to {K : PySem.W.Frag} (b : BindsAll K fd ps) {s : Shared} {us : List Value} (hl : us.length = ps.length) : BindsTo s fd ⟨us, []⟩ (ps.zip us) := .of_eq (b us hl)

variable {N : List Str} {P : Program} {w : World} {K : PySem.W.Frag} {mg : Str → Option Value} {base : Heap}
/-- the rule of a def, by its body; the wish of exceptions is the promise's -/
theorem def_G {x qual : Str} {params : Arguments} {body : List Stmt} {scope : Scope} (F : FunD K x qual params body scope [] [] f fd) (S : FnScope N ps scope)
    (len : ∀ vs H Q E, sp vs H Q E → vs.length = ps.length)
    (hbody : ∀ (cd : Value) (A : Around) (out : List Env) (s : Shared) (H : Hp) (vs : List V) (Q : VK) (E : XK), Room k (A.deeper (envOfC qual scope s.heap.objs.size f cd)) → A.guards = some [] → sp vs H Q E →
      ∃ t, PSs (cxOf (L2.CX P w) P w K mg base N qual scope f cd A out s H E) body t ∧ t { nx := fun _ H' => Q .non H', rt := Q } (L2.start N vs) H) :
    GOk P w K mg base (k + 1) f fd ps sp := by
  obtain ⟨oc, od, dV, kV, doc, pm, an, cd, ct, sl, rfl, lk, hcd, _, _⟩ := F.ex
  refine ⟨len, fun A out s H args us vs Q E hr hgd e0 hb r hsp => ?_⟩
  have hlen := len vs H Q E hsp
  have kin : K.In s.heap := e0.mod.kin.keeps fun b o q => (e0.bs b o q).1
  have nolim : s.heap.NoLimit := e0.mod.nolimit.keeps fun b o q => (e0.bs b o q).1
  have kinds : ∀ y ∈ ps.zip us, scope.names.lookup y.1 = some .local ∨ (scope.names.lookup y.1 = some .cell ∧ ((cellsFrom (s.heap.objs.size + 1) scope.names []).lookup y.1).isSome = true) := by
    rintro ⟨n, v⟩ hy
    rcases S.par n (List.of_mem_zip hy).1 with q | q
    · exact .inl q
    · exact .inr ⟨q, PySem.W.cellsFrom_some _ _ _ (.inl q)⟩
  refine codeAny_call_function hr.depth (kin _ _ lk) rfl S.co S.gen rfl
    (PySem.W.codeRec_of kin hcd) (hb _ _ _ _ ?_)
  refine wpAny_newFunctionEnv_cells S.kind kinds
    fun env he s1 x => ?_
  subst he
  refine ⟨nolim.keeps x.toInCall.keep, codeAny_func ?_⟩
  obtain ⟨t, ht, hq⟩ := hbody cd A out s H vs Q E (hr.deeper _) hgd hsp
  have I := inv_start (CX := L2.CX P w) (E := E) S hr.hd e0 hlen r x
  refine wpAny_mono (ht.run [] s1 (L2.start N vs) H _ I hq) (fun fl s' hs => ?_) fun e s' hs => hs
  have done : ∀ {σ' : L2.St} {H' : Hp} {v : V} {u : Value}, Inv (cxOf (L2.CX P w) P w K mg base N qual scope f cd A out s H E) [] σ' H' s' → RelV v u → Q v H' → CE out P w H s Q u s' :=
    fun {σ' H' v u} J rv q => ⟨v, H', J.os, J.bare, J.base, J.hok, rv, q⟩
  cases fl with
  | ret u =>
    obtain ⟨v, σ', H', J, rv, q⟩ := hs
    exact done J rv q
  | next =>
    obtain ⟨σ', H', J, q⟩ := hs
    exact done (v := V.non) (u := Value.none) J rfl q
  | brk =>
    obtain ⟨_, _, _, q⟩ := hs
    exact q.elim
  | cont =>
    obtain ⟨_, _, _, q⟩ := hs
    exact q.elim
/-- at the very top there is no guard -/
theorem GOk.top (G : GOk P w K mg base k f fd ps sp) : ∀ (s : Shared) (H : Hp) (args : Args) (us : List Value) (vs : List V) (Q : VK) (E : XK), Room k callerA → Env0 P w K mg base callerA [] s H → BindsTo s fd args (ps.zip us) →
    Vals vs us → sp vs H Q E → codeAny (model P w) callerA (.call (.ref f) args) (CR (L2.CX P w) [] P w H s Q E) s :=
  fun s H args us vs Q E hr e0 hb r h => G.run callerA [] s H args us vs Q E hr rfl e0 hb r h
end

/-! ### the law's own call -/
section
variable {P : Program} {w : World} {K : PySem.W.Frag} {mg mb : Str → Option Value} {k : Nat} {fa a : Addr} {fd : FuncData} {x : Str} {sp : Sp} {s1 : Shared} {vs : List Value} {ns : List Int}
/-- from an abstract heap that tracks the script at the most -/
theorem law_core (kin : K.In s1.heap) (hns : s1.heap.Ns mainGlobals mg) (hb : s1.heap.Ns builtinsNs mb) (hbb : ∀ y : Str, y ≠ "__name__" → mb y = bootBuiltins y) (nolim : s1.heap.NoLimit) (hgens : s1.gens = #[])
    (hobj : s1.heap.get? a = some { cls := .type "list", data := .seq vs.toArray }) (room : Room k callerA)
    (G : ∀ base : Heap, K.In base → base.Ns mainGlobals mg → GOk P w K mg base k fa fd [x] sp) (bind : ∀ (s : Shared) (u : Value), BindsTo s fd ⟨[u], []⟩ [(x, u)])
    (hsp : ∀ H : Hp, Only H → SqL K H a (ns.map V.int) → sp [.ref a] H (fun v _ => v = .bl true) fun _ _ _ => False)
    (H : Hp) (only : Only H) (hS : SqL K H a (ns.map V.int)) (ok : HOk P w H s1.heap) (hA : ∀ b, H b ≠ none → b = a) (hK : H a ≠ none → K.lookup a = none) :
    codeAny (model P w) callerA (.call (.ref fa) ⟨[.ref a], []⟩) (fun r s' => r = .ok (.ret (.bool true)) ∧ OldK s1.heap s'.heap ∧ s'.os = s1.os ∧ AllBare s'.gens) s1 := by
  -- what is no dict does not lie at a
  have free_of : ∀ {b : Addr} {o : Obj}, s1.heap.get? b = some o → (∀ es ep, o.data = .dict es ep → H b = none) := by
    intro b o e es ep hd
    cases q : H b with
    | none => rfl
    | some u =>
      have hba : b = a := hA b (by rw [q]; exact fun z => nomatch z)
      rw [hba, hobj] at e
      cases e
      exact nomatch hd
  have ns_of : ∀ {b : Addr} {m : Str → Option Value}, s1.heap.Ns b m → (hidT s1.heap H).Ns b m := by
    rintro b m ⟨o, es, ep, e, d, r⟩
    exact ⟨o, es, ep, hidT_get e (free_of e es ep d), d, r⟩
  have kb : K.In (hidT s1.heap H) := by
    intro b o e
    refine hidT_get (kin b o e) ?_
    cases q : H b with
    | none => rfl
    | some u =>
      have hba : b = a := hA b (by rw [q]; exact fun z => nomatch z)
      rw [hba] at q e
      rw [hK (by rw [q]; exact fun z => nomatch z)] at e
      cases e
  have md : Mod K mg (hidT s1.heap H) := by
    obtain ⟨mc, h1, h2⟩ := nolim
    exact ⟨kb, ns_of hns, ⟨mb, ns_of hb, hbb⟩, ⟨mc, ns_of h1, h2⟩⟩
  have e0 : Env0 P w K mg (hidT s1.heap H) callerA [] s1 H :=
    ⟨rfl, md, fun b o e => of_hidT e, Nat.le_of_eq (hidT_size s1.heap H), trivial, fun b hb => (List.not_mem_nil hb).elim, ok, .of_eq hgens⟩
  refine codeAny_mono ((G _ kb (ns_of hns)).top s1 H ⟨[.ref a], []⟩ [.ref a] [.ref a] _ _ room e0 (bind s1 (.ref a)) (.cons rfl .nil) (hsp H only hS)) fun r s' hr => ?_
  cases r with
  | error e =>
    obtain ⟨_, _, _, _, _, _, _, _, _, _, _, _, z⟩ := hr
    exact z.elim
  | ok fl =>
    cases fl <;> first | exact hr.elim | skip
    rename_i u
    obtain ⟨v, H', os, bare, un, hok', rv, q⟩ := hr
    have q : v = .bl true := q
    subst q
    obtain rfl : u = Value.bool true := rv
    refine ⟨rfl, OldK.of_keep fun b o e => ?_, os, bare⟩
    rcases only b with z | ⟨ob, xs, z⟩
    · exact un.keep b o e z (fun h => (List.not_mem_nil h).elim) (fun h => (List.not_mem_nil h).elim)
    · obtain ⟨e1, _⟩ := ok b _ z
      obtain ⟨e2, _⟩ := hok' b _ (un.frzs b ob _ z)
      rw [e] at e1
      cases e1
      exact e2
theorem law_G (kin : K.In s1.heap) (hns : s1.heap.Ns mainGlobals mg) (hb : s1.heap.Ns builtinsNs mb) (hbb : ∀ y : Str, y ≠ "__name__" → mb y = bootBuiltins y) (nolim : s1.heap.NoLimit) (hgens : s1.gens = #[])
    (hobj : s1.heap.get? a = some { cls := .type "list", data := .seq vs.toArray }) (hi : IntsAre vs ns) (hl : ns.length ≤ sizeLine) (room : Room k callerA)
    (G : ∀ base : Heap, K.In base → base.Ns mainGlobals mg → GOk P w K mg base k fa fd [x] sp) (bind : ∀ (s : Shared) (u : Value), BindsTo s fd ⟨[u], []⟩ [(x, u)])
    (hsp : ∀ H : Hp, Only H → SqL K H a (ns.map V.int) → sp [.ref a] H (fun v _ => v = .bl true) fun _ _ _ => False) :
    codeAny (model P w) callerA (.call (.ref fa) ⟨[.ref a], []⟩) (fun r s' => r = .ok (.ret (.bool true)) ∧ OldK s1.heap s'.heap ∧ s'.os = s1.os ∧ AllBare s'.gens) s1 := by
  have rv := vals_ints hi
  cases hk : K.lookup a with
  | some o =>
    have e := kin a o hk
    rw [hobj] at e
    cases e
    refine law_core kin hns hb hbb nolim hgens hobj room G bind hsp (fun _ => none) (fun _ => .inl rfl) ?_ (fun b u z => nomatch z) (fun b z => (z rfl).elim) fun z => (z rfl).elim
    exact .inr ⟨_, vs.toArray, _, hk, rfl, rfl, rfl, by rw [List.size_toArray, hi.length]; exact hl, by simpa using rv⟩
  | none =>
    have at_a : (fun b => if b = a then some (HO.frz { cls := .type "list", data := .seq vs.toArray } (.lst (ns.map V.int))) else none : Hp) a = some (.frz { cls := .type "list", data := .seq vs.toArray } (.lst (ns.map V.int))) := if_pos rfl
    have off_a : ∀ b, b ≠ a → (fun b => if b = a then some (HO.frz { cls := .type "list", data := .seq vs.toArray } (.lst (ns.map V.int))) else none : Hp) b = none := fun b hb => if_neg hb
    generalize (fun b => if b = a then some (HO.frz { cls := .type "list", data := .seq vs.toArray } (.lst (ns.map V.int))) else none : Hp) = H at at_a off_a
    refine law_core kin hns hb hbb nolim hgens hobj room G bind hsp H (fun b => ?_) (.inl (.inr ⟨_, at_a⟩)) (fun b u z => ?_) (fun b z => ?_) fun _ => hk
    · by_cases hb : b = a
      · exact .inr ⟨_, _, by rw [hb]; exact at_a⟩
      · exact .inl (off_a b hb)
    · by_cases hb : b = a
      · rw [hb, at_a] at z
        cases z
        rw [hb]
        exact ⟨hobj, by rw [List.length_map]; exact hl, vs, _, rv, hobj⟩
      · rw [off_a b hb] at z
        cases z
    · by_cases hb : b = a
      · exact hb
      · exact (z (off_a b hb)).elim
end
/-- the goal that the head leaves -/
theorem walk_G {l : PySem.W.OpenLaw} {n k : Nat} {q : Program} {loose : List Str} {XP : (Str → Option Value) → Heap → Prop} {YP : World → Heap → Prop} {d : DefRec} {x : Str}
    (hn : l.most = some n) (hn2 : n ≤ sizeLine) (hdf : d.params.defaults = []) (room : Room k callerA)
    (F : ∀ (w : World) (mg : Str → Option Value) (fa : Addr) (h : Heap), YP w h → h.Ns mainGlobals mg → mg d.name = some (.ref fa) →
      ∃ (K : PySem.W.Frag) (fd : FuncData) (sp : Sp), K.In h ∧ (∀ (s : Shared) (u : Value), BindsTo s fd ⟨[u], []⟩ [(x, u)]) ∧
        (∀ (H : Hp) (a : Addr) (ns : List Int), ns.length ≤ n → (∀ i ∈ ns, Builtin.Int.intBits i ≤ 1048576) → Only H → SqL K H a (ns.map V.int) → sp [.ref a] H (fun v _ => v = .bl true) fun _ _ _ => False) ∧
        ∀ base : Heap, K.In base → base.Ns mainGlobals mg → GOk l.prog w K mg base k fa fd [x] sp) :
    PySem.W.WalkO q loose XP YP l.row.toRowW d [] (fun f vs => PySem.call f vs) := by
  refine Att.attach_callB hn hdf fun w s0 s1 mg mb fa o pm cd doc a vs ns Gr Y ho hd hcd hmg hobj hi hlen hbits hg => ?_
  obtain ⟨K, fd, sp, kin, hb, hsp, hF⟩ := F w mg fa _ Y Gr.T.g hmg
  exact law_G kin Gr.T.g Gr.T.b Gr.T.builtins Gr.T.nolimit hg hobj hi (Nat.le_trans hlen hn2) room hF hb fun H hO hS => hsp H a ns hlen hbits hO hS
end Rs
end

section
set_option Elab.async false
set_option linter.all false
set_option maxRecDepth 100000
set_option maxHeartbeats 1000000
set_option autoImplicit false
/-! RsSnd1: the rules of expressions: what the evaluator says is what comes. Own work. -/
namespace Rs
open PySem PySem.Spec PyProof.Rows L2

/-! ### what is wanted of a result -/
def Exo (K : PySem.W.Frag) (W : WX) (σ : L2.St) (A : Ads) (H : Hp) (c : Str) (S : Store) : Prop :=
  ∀ A' H', Ext A H A' H' → SR K H' A' S → W (.ref (He.ga K c)) none σ H'
def RP (K : PySem.W.Frag) (W : WX) (σ : L2.St) (A : Ads) (H : Hp) (r : R D) (Q : VK) : Prop :=
  match r with
  | .ok d S => Out K A H S d Q
  | .exc c S => Exo K W σ A H c S
  | .bad => False
def Outs (K : PySem.W.Frag) (A : Ads) (H : Hp) (S : Store) (ds : List D) (Q : List V → Hp → Prop) : Prop :=
  ∀ vs H' A', Ext A H A' H' → SR K H' A' S → Rps K H' A' ds vs → Q vs H'
def RPs (K : PySem.W.Frag) (W : WX) (σ : L2.St) (A : Ads) (H : Hp) (r : R (List D)) (Q : List V → Hp → Prop) : Prop :=
  match r with
  | .ok ds S => Outs K A H S ds Q
  | .exc c S => Exo K W σ A H c S
  | .bad => False
section
variable {K : PySem.W.Frag} {W : WX} {σ : L2.St} {A A' : Ads} {H H' : Hp}
theorem Exo.mono {c : Str} {S : Store} (h : Exo K W σ A H c S) (x : Ext A H A' H') : Exo K W σ A' H' c S := fun A2 H2 y s => h A2 H2 (x.trans y) s
theorem RP.mono {r : R D} {Q : VK} (h : RP K W σ A H r Q) (x : Ext A H A' H') : RP K W σ A' H' r Q := by
  cases r with
  | ok d S => exact Out.mono h x
  | exc c S => exact Exo.mono h x
  | bad => exact h
theorem RPs.mono {r : R (List D)} {Q : List V → Hp → Prop} (h : RPs K W σ A H r Q) (x : Ext A H A' H') : RPs K W σ A' H' r Q := by
  cases r with
  | ok d S => exact fun vs H2 A2 y s r => h vs H2 A2 (x.trans y) s r
  | exc c S => exact Exo.mono h x
  | bad => exact h
theorem RP.imp {r : R D} {Q Q' : VK} (h : RP K W σ A H r Q) (k : ∀ v H', Q v H' → Q' v H') : RP K W σ A H r Q' := by
  cases r with
  | ok d S => exact Out.imp h k
  | exc c S => exact h
  | bad => exact h
theorem RPs.imp {r : R (List D)} {Q Q' : List V → Hp → Prop} (h : RPs K W σ A H r Q) (k : ∀ v H', Q v H' → Q' v H') : RPs K W σ A H r Q' := by
  cases r with
  | ok d S => exact fun vs H2 A2 y s r => k _ _ (h vs H2 A2 y s r)
  | exc c S => exact h
  | bad => exact h
/-- first r, then f -/
theorem RP.bind {r : R D} {f : D → Store → R D} {Q : VK} (h : RP K W σ A H (r.bind f) Q) :
    RP K W σ A H r fun v H1 => ∃ A1 S1 d, Ext A H A1 H1 ∧ SR K H1 A1 S1 ∧ Rp K H1 A1 d v ∧ RP K W σ A1 H1 (f d S1) Q := by
  cases r with
  | ok d S => exact fun v H1 A1 x s r => ⟨A1, S, d, x, s, r, RP.mono (r := f d S) h x⟩
  | exc c S => exact h
  | bad => exact h
theorem RP.binds {r : R D} {f : D → Store → R (List D)} {Q : List V → Hp → Prop} (h : RPs K W σ A H (r.bind f) Q) :
    RP K W σ A H r fun v H1 => ∃ A1 S1 d, Ext A H A1 H1 ∧ SR K H1 A1 S1 ∧ Rp K H1 A1 d v ∧ RPs K W σ A1 H1 (f d S1) Q := by
  cases r with
  | ok d S => exact fun v H1 A1 x s r => ⟨A1, S, d, x, s, r, RPs.mono (r := f d S) h x⟩
  | exc c S => exact h
  | bad => exact h
theorem RPs.bind {r : R (List D)} {f : List D → Store → R D} {Q : VK} (h : RP K W σ A H (r.bind f) Q) :
    RPs K W σ A H r fun v H1 => ∃ A1 S1 d, Ext A H A1 H1 ∧ SR K H1 A1 S1 ∧ Rps K H1 A1 d v ∧ RP K W σ A1 H1 (f d S1) Q := by
  cases r with
  | ok d S => exact fun v H1 A1 x s r => ⟨A1, S, d, x, s, r, RP.mono (r := f d S) h x⟩
  | exc c S => exact h
  | bad => exact h
theorem RPs.binds {r : R (List D)} {f : List D → Store → R (List D)} {Q : List V → Hp → Prop} (h : RPs K W σ A H (r.bind f) Q) :
    RPs K W σ A H r fun v H1 => ∃ A1 S1 d, Ext A H A1 H1 ∧ SR K H1 A1 S1 ∧ Rps K H1 A1 d v ∧ RPs K W σ A1 H1 (f d S1) Q := by
  cases r with
  | ok d S => exact fun v H1 A1 x s r => ⟨A1, S, d, x, s, r, RPs.mono (r := f d S) h x⟩
  | exc c S => exact h
  | bad => exact h
theorem RP.of {o : Option D} {S : Store} {Q : VK} (h : RP K W σ A H (R.of o S) Q) : ∃ d, o = some d ∧ Out K A H S d Q := by
  cases o with
  | none => exact h.elim
  | some d => exact ⟨d, rfl, h⟩
end

/-! ### readings -/
def tE (K : PySem.W.Frag) (fx : Fx) (W : WX) (e : E) : TE := fun σ H Q => ∃ env A S, EnvR K H A env σ ∧ SR K H A S ∧ RP K W σ A H (evE fx e env S) Q
def tEs (K : PySem.W.Frag) (fx : Fx) (W : WX) (es : Es) : TA := fun σ H Q => ∃ env A S, EnvR K H A env σ ∧ SR K H A S ∧ RPs K W σ A H (evEs fx es env S) Q
/-- a test: the value's truth -/
def RT (K : PySem.W.Frag) (W : WX) (σ : L2.St) (A : Ads) (H : Hp) (r : R D) (Q : Bool → Hp → Prop) : Prop :=
  match r with
  | .ok d S => ∃ b, truth S d = some b ∧ ∀ A' H', Ext A H A' H' → SR K H' A' S → Q b H'
  | .exc c S => Exo K W σ A H c S
  | .bad => False
def tT (K : PySem.W.Frag) (fx : Fx) (W : WX) (e : E) : TT := fun σ H Q => ∃ env A S, EnvR K H A env σ ∧ SR K H A S ∧ RT K W σ A H (evE fx e env S) Q
section
variable {K : PySem.W.Frag} {W : WX} {σ : L2.St} {A A' : Ads} {H H' : Hp}
theorem RT.mono {r : R D} {Q : Bool → Hp → Prop} (h : RT K W σ A H r Q) (x : Ext A H A' H') : RT K W σ A' H' r Q := by
  cases r with
  | ok d S => obtain ⟨b, h1, h2⟩ := h; exact ⟨b, h1, fun A2 H2 y s => h2 A2 H2 (x.trans y) s⟩
  | exc c S => exact Exo.mono h x
  | bad => exact h
theorem RT.imp {r : R D} {Q Q' : Bool → Hp → Prop} (h : RT K W σ A H r Q) (k : ∀ v H', Q v H' → Q' v H') : RT K W σ A H r Q' := by
  cases r with
  | ok d S => obtain ⟨b, h1, h2⟩ := h; exact ⟨b, h1, fun A2 H2 y s => k _ _ (h2 A2 H2 y s)⟩
  | exc c S => exact h
  | bad => exact h
/-- a value's reading gives its test's -/
theorem RT.of {r : R D} {Q : Bool → Hp → Prop} (h : RT K W σ A H r Q) (KX : K = K) : RP K W σ A H r fun v H1 => ∃ b A1 S1 d, Ext A H A1 H1 ∧ SR K H1 A1 S1 ∧ Rp K H1 A1 d v ∧ truth S1 d = some b ∧ Q b H1 := by
  cases r with
  | ok d S => obtain ⟨b, h1, h2⟩ := h; exact fun v H1 A1 x s r => ⟨b, A1, S, d, x, s, r, h1, h2 A1 H1 x s⟩
  | exc c S => exact h
  | bad => exact h
end

/-! ### the rules -/
section
variable {X : Cx} {fx : Fx} {W : WX} {pos : Pos}
theorem PE.imp {e : Expr} {t t' : TE} (h : PE X e t) (k : ∀ σ H Q, t' σ H Q → t σ H Q) : PE X e t' := ⟨fun pins s σ H Q I q => h.run pins s σ H Q I (k σ H Q q)⟩
theorem PT.imp {e : Expr} {t t' : TT} (h : PT X e t) (k : ∀ σ H Q, t' σ H Q → t σ H Q) : PT X e t' := ⟨fun pins s σ H Q I q => h.run pins s σ H Q I (k σ H Q q)⟩
theorem PA.imp {e : List Expr} {t t' : TA} (h : PA X e t) (k : ∀ σ H Q, t' σ H Q → t σ H Q) : PA X e t' := ⟨fun pos pins s σ H Q I q => h.run pos pins s σ H Q I (k σ H Q q)⟩
theorem RP.bad {K : PySem.W.Frag} {σ : L2.St} {A : Ads} {H : Hp} {Q : VK} (h : RP K W σ A H .bad Q) : False := h

theorem r_var {i : Nat} {x : Str} (hN : X.N[i]? = some x) (hv : Vis X.env.scope x) (hd : (x == ("__debug__" : Str)) = false) (hcd : (x == ("__classdict__" : Str)) = false) : PE X (.Name x pos) (tE X.K fx W (.var i)) :=
  PE.imp (pe_var hN hv hd hcd) fun σ H Q ⟨env, A, S, hE, hS, h⟩ => by
    unfold evE at h
    obtain ⟨d, h1, h2⟩ := RP.of h
    obtain ⟨v, h3, h4⟩ := hE.get h1
    exact ⟨v, h3, h2.here hS h4⟩
theorem r_int {i : Int} {j : Nat} : PE X (.Constant (.int i) j pos) (tE X.K fx W (.cst (.int i))) :=
  PE.imp pe_int fun σ H Q ⟨env, A, S, hE, hS, h⟩ => by
    unfold evE at h
    exact Out.here h hS rp_int
theorem r_bl {i : Bool} {j : Nat} : PE X (.Constant (.bool i) j pos) (tE X.K fx W (.cst (.bl i))) :=
  PE.imp pe_bl fun σ H Q ⟨env, A, S, hE, hS, h⟩ => by
    unfold evE at h
    exact Out.here h hS rp_bl
theorem r_non {j : Nat} : PE X (.Constant .none j pos) (tE X.K fx W (.cst .non)) :=
  PE.imp pe_non fun σ H Q ⟨env, A, S, hE, hS, h⟩ => by
    unfold evE at h
    exact Out.here h hS rp_non
theorem r_str {i : Str} {j : Nat} : PE X (.Constant (.str i) j pos) (tE X.K fx W (.cst (.str i))) :=
  PE.imp pe_str fun σ H Q ⟨env, A, S, hE, hS, h⟩ => by
    unfold evE at h
    exact Out.here h hS rp_str
theorem r_globI {x : Str} {i : Int} {t : Tok} (hg : Gl X x) (hm : X.mg x = some (.int i t)) (hd : (x == ("__debug__" : Str)) = false) : PE X (.Name x pos) (tE X.K fx W (.glo x (.int i))) :=
  PE.imp (pe_glob (v := .int i) hg hm ⟨t, rfl⟩ hd) fun σ H Q ⟨env, A, S, hE, hS, h⟩ => by
    unfold evE at h
    exact Out.here h hS rp_int
theorem r_globS {x : Str} {i : Str} {t : Tok} (hg : Gl X x) (hm : X.mg x = some (.str i t)) (hd : (x == ("__debug__" : Str)) = false) : PE X (.Name x pos) (tE X.K fx W (.glo x (.str i))) :=
  PE.imp (pe_glob (v := .str i) hg hm ⟨t, rfl⟩ hd) fun σ H Q ⟨env, A, S, hE, hS, h⟩ => by
    unfold evE at h
    exact Out.here h hS rp_str
/-- arguments -/
theorem r_nil : PA X [] (tEs X.K fx W .nil) :=
  PA.imp pa_nil fun σ H Q ⟨env, A, S, hE, hS, h⟩ => by
    unfold evEs at h
    exact h [] H A (Ext.refl A H) hS Rps.nil
theorem r_cons {e : Expr} {es : List Expr} {e' : E} {es' : Es} (he : PE X e (tE X.K fx W e')) (hr : PA X es (tEs X.K fx W es')) (hs : starEach (e :: es) X.env = (false, eval e X.env) :: starEach es X.env) :
    PA X (e :: es) (tEs X.K fx W (.cons e' es')) :=
  PA.imp (pa_cons he hr hs) fun σ H Q ⟨env, A, S, hE, hS, h⟩ => by
    unfold evEs at h
    refine ⟨env, A, S, hE, hS, (RP.binds h).imp fun v H1 ⟨A1, S1, d, x1, s1, r1, h1⟩ => ?_⟩
    refine ⟨env, A1, S1, hE.mono x1 hS.noTup, s1, (RPs.binds h1).imp fun vs H2 ⟨A2, S2, ds, x2, s2, r2, h2⟩ => ?_⟩
    exact h2 _ H2 A2 (Ext.refl A2 H2) s2 (.cons (r1.mono x2 s1.noTup) r2)
/-- a size that the display checks -/
theorem r_tup {es : List Expr} {es' : Es} {k : Nat} (h : PA X es (tEs X.K fx W es')) : PE X (.Tuple es k pos) (tE X.K fx W (.tup es')) :=
  PE.imp (pe_tup h) fun σ H Q ⟨env, A, S, hE, hS, h⟩ => by
    unfold evE at h
    refine ⟨env, A, S, hE, hS, (RPs.bind h).imp fun vs H1 ⟨A1, S1, ds, x1, s1, r1, h1⟩ => ?_⟩
    split at h1
    · rename_i hl
      exact ⟨by rw [← r1.length]; exact lim_size hl, fun p hp => Out.tupN h1 s1 r1 hp⟩
    · exact h1.elim
theorem r_lst {es : List Expr} {es' : Es} (h : PA X es (tEs X.K fx W es')) : PE X (.List es pos) (tE X.K fx W (.lst es')) :=
  PE.imp (pe_lst h) fun σ H Q ⟨env, A, S, hE, hS, h⟩ => by
    unfold evE at h
    refine ⟨env, A, S, hE, hS, (RPs.bind h).imp fun vs H1 ⟨A1, S1, ds, x1, s1, r1, h1⟩ => ?_⟩
    split at h1
    · rename_i hl
      exact ⟨by rw [← r1.length]; exact lim_size hl, fun p hp => Out.lstN h1 s1 r1 hp⟩
    · exact h1.elim
/-- two operands in a row -/
theorem tE2 {K : PySem.W.Frag} {σ : L2.St} {H : Hp} {Q : VK} {a b : E} {f : D → D → Store → R D} {env : Nv} {A : Ads} {S : Store} (hE : EnvR K H A env σ) (hS : SR K H A S)
    (h : RP K W σ A H ((evE fx a env S).bind fun x S => (evE fx b env S).bind fun y S => f x y S) Q) {R2 : V → V → Hp → Prop}
    (k : ∀ x y d e A2 S2 H2, Ext A H A2 H2 → EnvR K H2 A2 env σ → SR K H2 A2 S2 → Rp K H2 A2 d x → Rp K H2 A2 e y → RP K W σ A2 H2 (f d e S2) Q → R2 x y H2) :
    tE K fx W a σ H fun x H1 => tE K fx W b σ H1 fun y H2 => R2 x y H2 := by
  refine ⟨env, A, S, hE, hS, (RP.bind h).imp fun v H1 ⟨A1, S1, d, x1, s1, r1, h1⟩ => ?_⟩
  have hE1 := hE.mono x1 hS.noTup
  refine ⟨env, A1, S1, hE1, s1, (RP.bind h1).imp fun u H2 ⟨A2, S2, e, x2, s2, r2, h2⟩ => ?_⟩
  exact k v u d e A2 S2 H2 (x1.trans x2) (hE1.mono x2 s1.noTup) s2 (r1.mono x2 s1.noTup) r2 h2
theorem r_bop {o : Bop} {a b : Expr} {a' b' : E} (ha : PE X a (tE X.K fx W a')) (hb : PE X b (tE X.K fx W b')) : PE X (.BinOp a (opOf o) b pos) (tE X.K fx W (.bop o a' b')) :=
  PE.imp (pe_op (op_bops o) ha hb) fun σ H Q ⟨env, A, S, hE, hS, h⟩ => by
    unfold evE at h
    refine tE2 hE hS h fun x y d e A2 S2 H2 _ _ s2 r1 r2 h2 => ?_
    obtain ⟨z, h3, h4⟩ := RP.of h2
    exact ⟨A2, S2, d, e, z, s2, r1, r2, h3, h4⟩
theorem r_neg {a : Expr} {a' : E} (ha : PE X a (tE X.K fx W a')) : PE X (.UnaryOp .USub a pos) (tE X.K fx W (.neg a')) :=
  PE.imp (pe_un un_neg ha) fun σ H Q ⟨env, A, S, hE, hS, h⟩ => by
    unfold evE at h
    refine ⟨env, A, S, hE, hS, (RP.bind h).imp fun v H1 ⟨A1, S1, d, x1, s1, r1, h1⟩ => ?_⟩
    split at h1
    · exact ⟨_, r1.int, Out.here h1 s1 rp_int⟩
    · exact h1.elim
theorem r_cmp (hu : X.A.units + 65 < cLine) {o : Cop} {a b : Expr} {a' b' : E} (ha : PE X a (tE X.K fx W a')) (hb : PE X b (tE X.K fx W b')) (hm : behindInMarks (cmpOf o) b = false) :
    PE X (.Compare a [cmpOf o] [b] pos) (tE X.K fx W (.cmp o a' b')) :=
  PE.imp (pe_cmpR (op_cops hu o) ha hb hm) fun σ H Q ⟨env, A, S, hE, hS, h⟩ => by
    unfold evE at h
    refine tE2 hE hS h fun x y d e A2 S2 H2 _ _ s2 r1 r2 h2 => ?_
    obtain ⟨z, h3, h4⟩ := RP.of h2
    obtain ⟨b, h5, rfl⟩ := Option.map_eq_some_iff.mp h3
    exact ⟨A2, S2, d, e, b, s2, r1, r2, h5, h4.here s2 rp_bl⟩
theorem r_cmpT (hu : X.A.units + 65 < cLine) {o : Cop} {a b : Expr} {a' b' : E} (ha : PE X a (tE X.K fx W a')) (hb : PE X b (tE X.K fx W b')) (hm : behindInMarks (cmpOf o) b = false) :
    PT X (.Compare a [cmpOf o] [b] pos) (tT X.K fx W (.cmp o a' b')) :=
  PT.imp (pt_cmpR (op_cops hu o) ha hb hm) fun σ H Q ⟨env, A, S, hE, hS, h⟩ => by
    have h := RT.of h rfl
    unfold evE at h
    refine tE2 hE hS h fun x y d e A2 S2 H2 _ _ s2 r1 r2 h2 => ?_
    obtain ⟨z, h3, h4⟩ := RP.of h2
    obtain ⟨b, h5, rfl⟩ := Option.map_eq_some_iff.mp h3
    refine ⟨A2, S2, d, e, b, s2, r1, r2, h5, b, rfl, ?_⟩
    obtain ⟨b', A3, S3, d3, x3, s3, r3, t3, q⟩ := h4.here s2 rp_bl
    have e3 : d3 = .bl b := by
      cases d3 with
      | bl b2 => have := r3.bl; cases this; rfl
      | non => exact nomatch r3.non
      | int i => exact nomatch r3.int
      | str i => exact nomatch r3.str
      | tup i => obtain ⟨_, _, z, _⟩ := r3.tup; cases z
      | lst i => obtain ⟨_, _, z, _⟩ := r3.lst; cases z
      | dct i => unfold Rp at r3; obtain ⟨_, z, _⟩ := r3; cases z
      | ref i => obtain ⟨_, _, _, z⟩ := r3.ref; cases z
      | exc i => unfold Rp at r3; exact r3.elim
      | scr i => obtain ⟨_, z, _⟩ := r3.scr; cases z
    subst e3
    cases t3
    exact q
end
end Rs
end

section
set_option Elab.async false
set_option linter.all false
set_option maxRecDepth 100000
set_option maxHeartbeats 1000000
set_option autoImplicit false
/-! RsSnd2: further rules of expressions. Own work. -/
namespace Rs
open PySem PySem.Spec PyProof.Rows L2
section
variable {X : Cx} {fx : Fx} {W : WX} {pos : Pos}
theorem bl_inv {K : PySem.W.Frag} {H : Hp} {A : Ads} {d : D} {b : Bool} (r : Rp K H A d (.bl b)) : d = .bl b := by
  cases d with
  | bl b2 => have := r.bl; cases this; rfl
  | non => exact nomatch r.non
  | int i => exact nomatch r.int
  | str i => exact nomatch r.str
  | tup i => obtain ⟨_, _, z, _⟩ := r.tup; cases z
  | lst i => obtain ⟨_, _, z, _⟩ := r.lst; cases z
  | dct i => unfold Rp at r; obtain ⟨_, z, _⟩ := r; cases z
  | ref i => obtain ⟨_, _, _, z⟩ := r.ref; cases z
  | exc i => unfold Rp at r; exact r.elim
  | scr i => obtain ⟨_, z, _⟩ := r.scr; cases z
/-- of a bool that came, what the test wanted -/
theorem RT.bl {K : PySem.W.Frag} {σ : L2.St} {A : Ads} {H : Hp} {S : Store} {Q : Bool → Hp → Prop} {b : Bool} (h : RT K W σ A H (.ok (.bl b) S) Q) (s : SR K H A S) : Q b H := by
  obtain ⟨b', h1, h2⟩ := h
  cases h1
  exact h2 A H (Ext.refl A H) s
theorem RT.bind {K : PySem.W.Frag} {σ : L2.St} {A : Ads} {H : Hp} {r : R D} {f : D → Store → R D} {Q : Bool → Hp → Prop} (h : RT K W σ A H (r.bind f) Q) :
    RP K W σ A H r fun v H1 => ∃ A1 S1 d, Ext A H A1 H1 ∧ SR K H1 A1 S1 ∧ Rp K H1 A1 d v ∧ RT K W σ A1 H1 (f d S1) Q := by
  cases r with
  | ok d S => exact fun v H1 A1 x s r => ⟨A1, S, d, x, s, r, RT.mono (r := f d S) h x⟩
  | exc c S => exact h
  | bad => exact h
/-- first r's truth -/
theorem RP.bindT {K : PySem.W.Frag} {σ : L2.St} {A : Ads} {H : Hp} {r : R D} {f : Bool → D → Store → R D} {Q : VK} (h : RP K W σ A H (r.bind fun x S => match truth S x with
      | some b => f b x S
      | none => .bad) Q) : RT K W σ A H r fun b H1 => ∃ A1 S1 d, Ext A H A1 H1 ∧ SR K H1 A1 S1 ∧ RP K W σ A1 H1 (f b d S1) Q := by
  cases r with
  | ok d S =>
    have h : RP K W σ A H (match truth S d with
      | some b => f b d S
      | none => .bad) Q := h
    cases e : truth S d with
    | none => rw [e] at h; exact h.elim
    | some b =>
      rw [e] at h
      exact ⟨b, e, fun A1 H1 x s => ⟨A1, S, d, x, s, RP.mono (r := f b d S) h x⟩⟩
  | exc c S => exact h
  | bad => exact h
theorem RT.bindT {K : PySem.W.Frag} {σ : L2.St} {A : Ads} {H : Hp} {r : R D} {f : Bool → D → Store → R D} {Q : Bool → Hp → Prop} (h : RT K W σ A H (r.bind fun x S => match truth S x with
      | some b => f b x S
      | none => .bad) Q) : RT K W σ A H r fun b H1 => ∃ A1 S1 d, Ext A H A1 H1 ∧ SR K H1 A1 S1 ∧ truth S1 d = some b ∧ RT K W σ A1 H1 (f b d S1) Q := by
  cases r with
  | ok d S =>
    have h : RT K W σ A H (match truth S d with
      | some b => f b d S
      | none => .bad) Q := h
    cases e : truth S d with
    | none => rw [e] at h; exact h.elim
    | some b =>
      rw [e] at h
      exact ⟨b, e, fun A1 H1 x s => ⟨A1, S, d, x, s, e, RT.mono (r := f b d S) h x⟩⟩
  | exc c S => exact h
  | bad => exact h
/-- a test by its value's truth -/
theorem r_truth {e : Expr} {e' : E} (h : PE X e (tE X.K fx W e')) (he : ∀ whole, isTrue e X.env whole = (do let v ← whole; standAt e.pos; holding [v] (truthy v))) : PT X e (tT X.K fx W e') :=
  PT.imp (pt_truth h he) fun σ H Q ⟨env, A, S, hE, hS, h⟩ =>
    ⟨env, A, S, hE, hS, (RT.of h rfl).imp fun v H1 ⟨b, A1, S1, d, x, s, r, t, q⟩ => ⟨b, truth_of s r t, q⟩⟩
theorem r_chn (hu : X.A.units + 65 < cLine) {o p : Cop} {a b c : Expr} {a' b' c' : E} (ha : PE X a (tE X.K fx W a')) (hb : PE X b (tE X.K fx W b')) (hc : PE X c (tE X.K fx W c'))
    (hm : lastMarks [cmpOf o, cmpOf p] [b, c] = false) : PE X (.Compare a [cmpOf o, cmpOf p] [b, c] pos) (tE X.K fx W (.chn o p a' b' c')) :=
  PE.imp (pe_chain (op_cops hu o) (op_cops hu p) ha hb hc hm) fun σ H Q ⟨env, A, S, hE, hS, h⟩ => by
    unfold evE at h
    refine tE2 hE hS h fun x y d e A2 S2 H2 x2 hE2 s2 r1 r2 h2 => ?_
    split at h2
    · rename_i e1
      refine ⟨A2, S2, d, e, true, s2, r1, r2, e1, true, rfl, ?_⟩
      rw [if_pos rfl]
      refine ⟨env, A2, S2, hE2, s2, (RP.bind h2).imp fun u H3 ⟨A3, S3, g, x3, s3, r3, h3⟩ => ?_⟩
      obtain ⟨z, h4, h5⟩ := RP.of h3
      obtain ⟨k, h6, rfl⟩ := Option.map_eq_some_iff.mp h4
      exact ⟨A3, S3, e, g, k, s3, r2.mono x3 s2.noTup, r3, h6, h5.here s3 rp_bl⟩
    · rename_i e1
      refine ⟨A2, S2, d, e, false, s2, r1, r2, e1, false, rfl, ?_⟩
      rw [if_neg Bool.false_ne_true]
      exact Out.here h2 s2 rp_bl
    · exact h2.elim
theorem r_chnT (hu : X.A.units + 65 < cLine) {o p : Cop} {a b c : Expr} {a' b' c' : E} (ha : PE X a (tE X.K fx W a')) (hb : PE X b (tE X.K fx W b')) (hc : PE X c (tE X.K fx W c'))
    (hm : lastMarks [cmpOf o, cmpOf p] [b, c] = false) : PT X (.Compare a [cmpOf o, cmpOf p] [b, c] pos) (tT X.K fx W (.chn o p a' b' c')) :=
  PT.imp (pt_chain (op_cops hu o) (op_cops hu p) ha hb hc hm) fun σ H Q ⟨env, A, S, hE, hS, h⟩ => by
    have h := RT.of h rfl
    unfold evE at h
    have fin : ∀ {v : V} {H1 : Hp} {k : Bool} (e : v = .bl k), (∃ b A1 S1 d, Ext A H A1 H1 ∧ SR X.K H1 A1 S1 ∧ Rp X.K H1 A1 d v ∧ truth S1 d = some b ∧ Q b H1) → Q k H1 := by
      rintro v H1 k rfl ⟨b, A1, S1, d, _, _, r, t, q⟩
      have := bl_inv r
      subst this
      cases t
      exact q
    refine tE2 hE hS h fun x y d e A2 S2 H2 x2 hE2 s2 r1 r2 h2 => ?_
    split at h2
    · rename_i e1
      refine ⟨A2, S2, d, e, true, s2, r1, r2, e1, true, rfl, ?_⟩
      rw [if_pos rfl]
      refine ⟨env, A2, S2, hE2, s2, (RP.bind h2).imp fun u H3 ⟨A3, S3, g, x3, s3, r3, h3⟩ => ?_⟩
      obtain ⟨z, h4, h5⟩ := RP.of h3
      obtain ⟨k, h6, rfl⟩ := Option.map_eq_some_iff.mp h4
      exact ⟨A3, S3, e, g, k, s3, r2.mono x3 s2.noTup, r3, h6, k, rfl, fin rfl (h5.here s3 rp_bl)⟩
    · rename_i e1
      refine ⟨A2, S2, d, e, false, s2, r1, r2, e1, false, rfl, ?_⟩
      rw [if_neg Bool.false_ne_true]
      exact ⟨false, rfl, fin rfl (Out.here h2 s2 rp_bl)⟩
    · exact h2.elim
/-! ### a chain of three -/
def tChain3 (r r' r2 : R2) (ta tb tc td : TE) : TE := fun σ H Q => ta σ H fun x H1 => tb σ H1 fun y H2 => r x y H2 fun z H3 => ∃ k, z = .bl k ∧
  (if k = true then tc σ H3 fun w' H4 => r' y w' H4 fun z2 H5 => ∃ k2, z2 = .bl k2 ∧ (if k2 = true then td σ H5 fun w2 H6 => r2 w' w2 H6 Q else Q (.bl false) H5) else Q (.bl false) H3)
theorem pe_chain3 {a b c d : Expr} {ta tb tc td : TE} {r r' r2 : R2} {op op' op2 : CmpOp} (ho : OpR X (compareOp op) r) (ho' : OpR X (compareOp op') r') (ho2 : OpR X (compareOp op2) r2) (ha : PE X a ta) (hb : PE X b tb) (hc : PE X c tc) (hd : PE X d td)
    (hm : lastMarks [op, op', op2] [b, c, d] = false) : PE X (.Compare a [op, op', op2] [b, c, d] pos) (tChain3 r r' r2 ta tb tc td) := by
  refine ⟨fun pins s σ H Q I h => ?_⟩
  refine Compare_chain (thn (ha.run pins s σ H _ I h) fun v s1 ⟨x, H1, I1, r1, q1⟩ => chain_link (thn (hb.run pins s1 σ H1 _ I1 q1) fun u s2 ⟨y, H2, I2, r2, q2⟩ =>
    thn (ho pins s2 σ H2 x y v u _ I2 r1 r2 q2) fun d s3 ⟨z, H3, I3, r3, k, e, q3⟩ => ?_)) hm
  subst e
  cases r3
  refine wpAny_truthy_bool ?_
  cases k with
  | false => exact ite_ff ⟨.bl false, H3, I3, rfl, q3⟩
  | true =>
    refine ite_tt (chain_link (thn (hc.run pins s3 σ H3 _ I3 q3) fun w' s4 ⟨z', H4, I4, r4, q4⟩ => thn (ho' pins s4 σ H4 y z' u w' _ I4 r2 r4 q4) fun d' s5 ⟨z2, H5, I5, r5, k2, e2, q5⟩ => ?_))
    subst e2
    cases r5
    refine wpAny_truthy_bool ?_
    cases k2 with
    | false => exact ite_ff ⟨.bl false, H5, I5, rfl, q5⟩
    | true => exact ite_tt (chain_last (thn (hd.run pins s5 σ H5 _ I5 q5) fun w2 s6 ⟨z3, H6, I6, r6, q6⟩ => ho2 pins s6 σ H6 z' z3 w' w2 Q I6 r4 r6 q6))
theorem r_ch3 (hu : X.A.units + 65 < cLine) {o p q : Cop} {a b c d : Expr} {a' b' c' d' : E} (ha : PE X a (tE X.K fx W a')) (hb : PE X b (tE X.K fx W b')) (hc : PE X c (tE X.K fx W c')) (hd : PE X d (tE X.K fx W d'))
    (hm : lastMarks [cmpOf o, cmpOf p, cmpOf q] [b, c, d] = false) : PE X (.Compare a [cmpOf o, cmpOf p, cmpOf q] [b, c, d] pos) (tE X.K fx W (.ch3 o p q a' b' c' d')) :=
  PE.imp (pe_chain3 (op_cops hu o) (op_cops hu p) (op_cops hu q) ha hb hc hd hm) fun σ H Q ⟨env, A, S, hE, hS, h⟩ => by
    unfold evE at h
    refine tE2 hE hS h fun x y d e A2 S2 H2 x2 hE2 s2 r1 r2 h2 => ?_
    split at h2
    · rename_i e1
      refine ⟨A2, S2, d, e, true, s2, r1, r2, e1, true, rfl, ?_⟩
      rw [if_pos rfl]
      refine ⟨env, A2, S2, hE2, s2, (RP.bind h2).imp fun u H3 ⟨A3, S3, g, x3, s3, r3, h3⟩ => ?_⟩
      split at h3
      · rename_i e2
        refine ⟨A3, S3, e, g, true, s3, r2.mono x3 s2.noTup, r3, e2, true, rfl, ?_⟩
        rw [if_pos rfl]
        refine ⟨env, A3, S3, hE2.mono x3 s2.noTup, s3, (RP.bind h3).imp fun u2 H4 ⟨A4, S4, g2, x4, s4, r4, h4⟩ => ?_⟩
        obtain ⟨z, h5, h6⟩ := RP.of h4
        obtain ⟨k, h7, rfl⟩ := Option.map_eq_some_iff.mp h5
        exact ⟨A4, S4, g, g2, k, s4, r3.mono x4 s3.noTup, r4, h7, h6.here s4 rp_bl⟩
      · rename_i e2
        refine ⟨A3, S3, e, g, false, s3, r2.mono x3 s2.noTup, r3, e2, false, rfl, ?_⟩
        rw [if_neg Bool.false_ne_true]
        exact Out.here h3 s3 rp_bl
      · exact h3.elim
    · rename_i e1
      refine ⟨A2, S2, d, e, false, s2, r1, r2, e1, false, rfl, ?_⟩
      rw [if_neg Bool.false_ne_true]
      exact Out.here h2 s2 rp_bl
    · exact h2.elim
/-! ### and, or, not, if else -/
theorem r_and {a b : Expr} {rest : List Expr} {a' b' : E} (ha : PE X a (tE X.K fx W a')) (hb : PE X (.BoolOp .And (b :: rest) pos) (tE X.K fx W b')) : PE X (.BoolOp .And (a :: b :: rest) pos) (tE X.K fx W (.and a' b')) :=
  PE.imp (pe_andT ha hb) fun σ H Q ⟨env, A, S, hE, hS, h⟩ => by
    unfold evE at h
    refine ⟨env, A, S, hE, hS, (RP.bind h).imp fun v H1 ⟨A1, S1, d, x1, s1, r1, h1⟩ => ?_⟩
    split at h1
    · rename_i e1
      refine ⟨true, truth_of s1 r1 e1, ?_⟩
      rw [if_pos rfl]
      exact ⟨env, A1, S1, hE.mono x1 hS.noTup, s1, h1⟩
    · rename_i e1
      refine ⟨false, truth_of s1 r1 e1, ?_⟩
      rw [if_neg Bool.false_ne_true]
      exact Out.here h1 s1 r1
    · exact h1.elim
theorem r_or {a b : Expr} {rest : List Expr} {a' b' : E} (ha : PE X a (tE X.K fx W a')) (hb : PE X (.BoolOp .Or (b :: rest) pos) (tE X.K fx W b')) : PE X (.BoolOp .Or (a :: b :: rest) pos) (tE X.K fx W (.or a' b')) :=
  PE.imp (pe_orT ha hb) fun σ H Q ⟨env, A, S, hE, hS, h⟩ => by
    unfold evE at h
    refine ⟨env, A, S, hE, hS, (RP.bind h).imp fun v H1 ⟨A1, S1, d, x1, s1, r1, h1⟩ => ?_⟩
    split at h1
    · rename_i e1
      refine ⟨true, truth_of s1 r1 e1, ?_⟩
      rw [if_pos rfl]
      exact Out.here h1 s1 r1
    · rename_i e1
      refine ⟨false, truth_of s1 r1 e1, ?_⟩
      rw [if_neg Bool.false_ne_true]
      exact ⟨env, A1, S1, hE.mono x1 hS.noTup, s1, h1⟩
    · exact h1.elim
/-- the test of an and | or asks nothing of its whole -/
theorem pw_of {op : BoolOp} {vs : List Expr} {t : TT} (h : PT X (.BoolOp op vs pos) t) : PW X (.BoolOp op vs pos) t := ⟨fun whole pins s σ H Q I q => h.run pins s σ H Q I q⟩
theorem r_andT {a b : Expr} {rest : List Expr} {a' b' : E} (ha : PT X a (tT X.K fx W a')) (hb : PT X (.BoolOp .And (b :: rest) pos) (tT X.K fx W b')) : PT X (.BoolOp .And (a :: b :: rest) pos) (tT X.K fx W (.and a' b')) :=
  PT.imp (pw_and ha (pw_of hb)).pt fun σ H Q ⟨env, A, S, hE, hS, h⟩ => by
    have h : RT X.K W σ A H ((evE fx a' env S).bind fun x S => match truth S x with
      | some b => (fun b (x : D) S => cond b (evE fx b' env S) (R.ok x S)) b x S
      | none => .bad) Q := by
      unfold evE at h
      have e : (fun (x : D) (S : Store) => match truth S x with
          | some true => evE fx b' env S
          | some false => R.ok x S
          | none => .bad) = fun x S => match truth S x with
          | some b => (fun b (x : D) S => cond b (evE fx b' env S) (R.ok x S)) b x S
          | none => .bad := by
        funext x S
        cases truth S x with
        | none => rfl
        | some b => cases b <;> rfl
      rw [← e]
      exact h
    refine ⟨env, A, S, hE, hS, (RT.bindT h).imp fun c H1 ⟨A1, S1, d, x1, s1, t1, h1⟩ => ?_⟩
    cases c with
    | true =>
      rw [if_pos rfl]
      exact ⟨env, A1, S1, hE.mono x1 hS.noTup, s1, h1⟩
    | false =>
      rw [if_neg Bool.false_ne_true]
      obtain ⟨b, h2, h3⟩ := h1
      rw [t1] at h2
      cases h2
      exact h3 A1 H1 (Ext.refl A1 H1) s1
theorem r_orT {a b : Expr} {rest : List Expr} {a' b' : E} (ha : PT X a (tT X.K fx W a')) (hb : PT X (.BoolOp .Or (b :: rest) pos) (tT X.K fx W b')) : PT X (.BoolOp .Or (a :: b :: rest) pos) (tT X.K fx W (.or a' b')) :=
  PT.imp (pw_or ha (pw_of hb)).pt fun σ H Q ⟨env, A, S, hE, hS, h⟩ => by
    have h : RT X.K W σ A H ((evE fx a' env S).bind fun x S => match truth S x with
      | some b => (fun b (x : D) S => cond b (R.ok x S) (evE fx b' env S)) b x S
      | none => .bad) Q := by
      unfold evE at h
      have e : (fun (x : D) (S : Store) => match truth S x with
          | some true => R.ok x S
          | some false => evE fx b' env S
          | none => .bad) = fun x S => match truth S x with
          | some b => (fun b (x : D) S => cond b (R.ok x S) (evE fx b' env S)) b x S
          | none => .bad := by
        funext x S
        cases truth S x with
        | none => rfl
        | some b => cases b <;> rfl
      rw [← e]
      exact h
    refine ⟨env, A, S, hE, hS, (RT.bindT h).imp fun c H1 ⟨A1, S1, d, x1, s1, t1, h1⟩ => ?_⟩
    cases c with
    | true =>
      rw [if_pos rfl]
      obtain ⟨b, h2, h3⟩ := h1
      rw [t1] at h2
      cases h2
      exact h3 A1 H1 (Ext.refl A1 H1) s1
    | false =>
      rw [if_neg Bool.false_ne_true]
      exact ⟨env, A1, S1, hE.mono x1 hS.noTup, s1, h1⟩
theorem pt_one {op : BoolOp} {a : Expr} {t : TT} (h : PT X a t) : PT X (.BoolOp op [a] pos) t := by
  cases op with
  | And => exact (pw_and1 h).pt
  | Or => exact (pw_or1 h).pt
theorem r_not {a : Expr} {a' : E} (ha : PE X a (tE X.K fx W a')) : PE X (.UnaryOp .Not a pos) (tE X.K fx W (.not a')) :=
  PE.imp (pe_notT ha) fun σ H Q ⟨env, A, S, hE, hS, h⟩ => by
    unfold evE at h
    refine ⟨env, A, S, hE, hS, (RP.bind h).imp fun v H1 ⟨A1, S1, d, x1, s1, r1, h1⟩ => ?_⟩
    split at h1
    · rename_i b e1
      exact ⟨b, truth_of s1 r1 e1, Out.here h1 s1 rp_bl⟩
    · exact h1.elim
theorem r_notT {a : Expr} {a' : E} (ha : PT X a (tT X.K fx W a')) : PT X (.UnaryOp .Not a pos) (tT X.K fx W (.not a')) :=
  PT.imp (pt_not ha) fun σ H Q ⟨env, A, S, hE, hS, h⟩ => by
    unfold evE at h
    refine ⟨env, A, S, hE, hS, (RT.bindT (f := fun b _ S => .ok (.bl (!b)) S) h).imp fun c H1 ⟨A1, S1, d, x1, s1, t1, h1⟩ => RT.bl h1 s1⟩
theorem r_ite {c a b : Expr} {c' a' b' : E} (hc : PT X c (tT X.K fx W c')) (ha : PE X a (tE X.K fx W a')) (hb : PE X b (tE X.K fx W b')) : PE X (.IfExp c a b pos) (tE X.K fx W (.ite c' a' b')) :=
  PE.imp (pe_ifExp hc ha hb) fun σ H Q ⟨env, A, S, hE, hS, h⟩ => by
    have h : RP X.K W σ A H ((evE fx c' env S).bind fun x S => match truth S x with
      | some b => (fun b (x : D) S => cond b (evE fx a' env S) (evE fx b' env S)) b x S
      | none => .bad) Q := by
      unfold evE at h
      have e : (fun (x : D) (S : Store) => match truth S x with
          | some true => evE fx a' env S
          | some false => evE fx b' env S
          | none => .bad) = fun x S => match truth S x with
          | some b => (fun b (x : D) S => cond b (evE fx a' env S) (evE fx b' env S)) b x S
          | none => .bad := by
        funext x S
        cases truth S x with
        | none => rfl
        | some b => cases b <;> rfl
      rw [← e]
      exact h
    refine ⟨env, A, S, hE, hS, (RP.bindT h).imp fun k H1 ⟨A1, S1, d, x1, s1, h1⟩ => ?_⟩
    cases k with
    | true =>
      rw [if_pos rfl]
      exact ⟨env, A1, S1, hE.mono x1 hS.noTup, s1, h1⟩
    | false =>
      rw [if_neg Bool.false_ne_true]
      exact ⟨env, A1, S1, hE.mono x1 hS.noTup, s1, h1⟩

/-! ### places, slices -/
theorem r_ix {a b : Expr} {a' b' : E} (ha : PE X a (tE X.K fx W a')) (hb : PE X b (tE X.K fx W b')) (hs : PlainIx b) : PE X (.Subscript a b pos) (tE X.K fx W (.ix a' b')) :=
  PE.imp (pe_ix ix_D ha hb hs) fun σ H Q ⟨env, A, S, hE, hS, h⟩ => by
    unfold evE at h
    refine tE2 hE hS h fun x y d e A2 S2 H2 _ _ s2 r1 r2 h2 => ?_
    obtain ⟨z, h3, h4⟩ := RP.of h2
    exact ⟨A2, S2, d, e, z, s2, r1, r2, h3, h4⟩
/-- a part of a slice, left out or a whole number -/
def RPp (K : PySem.W.Frag) (W : WX) (σ : L2.St) (A : Ads) (H : Hp) (r : R (Option Int)) (Q : Option Int → Hp → Prop) : Prop :=
  match r with
  | .ok o S => ∀ H' A', Ext A H A' H' → SR K H' A' S → Q o H'
  | .exc c S => Exo K W σ A H c S
  | .bad => False
theorem RPp.imp {K : PySem.W.Frag} {σ : L2.St} {A : Ads} {H : Hp} {r : R (Option Int)} {Q Q' : Option Int → Hp → Prop} (h : RPp K W σ A H r Q) (k : ∀ v H', Q v H' → Q' v H') : RPp K W σ A H r Q' := by
  cases r with
  | ok d S => exact fun H2 A2 y s => k _ _ (h H2 A2 y s)
  | exc c S => exact h
  | bad => exact h
theorem RPp.bind {K : PySem.W.Frag} {σ : L2.St} {A : Ads} {H : Hp} {r : R (Option Int)} {f : Option Int → Store → R D} {Q : VK} (h : RP K W σ A H (r.bind f) Q) :
    RPp K W σ A H r fun o H1 => ∃ A1 S1, Ext A H A1 H1 ∧ SR K H1 A1 S1 ∧ RP K W σ A1 H1 (f o S1) Q := by
  cases r with
  | ok d S => exact fun H1 A1 x s => ⟨A1, S, x, s, RP.mono (r := f d S) h x⟩
  | exc c S => exact h
  | bad => exact h
/-- what a slice's part is to give -/
def tO (K : PySem.W.Frag) (fx : Fx) (W : WX) (l' : Es) : TO := fun σ H Q => ∃ env A S, EnvR K H A env σ ∧ SR K H A S ∧ RPp K W σ A H (evPt fx l' env S) Q
theorem po_imp {e : Option Expr} {t t' : TO} (h : PO X e t) (k : ∀ σ H Q, t' σ H Q → t σ H Q) : PO X e t' := ⟨fun pins s σ H Q I q => h.run pins s σ H Q I (k σ H Q q)⟩
theorem r_ptN : PO X none (tO X.K fx W .nil) :=
  po_imp po_none fun σ H Q ⟨env, A, S, hE, hS, h⟩ => by
    unfold evPt at h
    exact h H A (Ext.refl A H) hS
theorem r_ptS {e : Expr} {e' : E} (h : PE X e (tE X.K fx W e')) : PO X (some e) (tO X.K fx W (.cons e' .nil)) :=
  po_imp (po_some h) fun σ H Q ⟨env, A, S, hE, hS, h⟩ => by
    unfold evPt at h
    refine ⟨env, A, S, hE, hS, ?_⟩
    cases r : evE fx e' env S with
    | bad => rw [r] at h; exact h.elim
    | exc c S1 => rw [r] at h; exact h
    | ok u S1 =>
      rw [r] at h
      intro y H2 A2 x2 s2 r2
      cases u <;> first | exact False.elim h | skip
      rename_i j
      exact ⟨j, r2.int, h H2 A2 x2 s2⟩
theorem r_sl {a : Expr} {lo hi : Option Expr} {a' : E} {l' h' : Es} {p2 : Pos} (ha : PE X a (tE X.K fx W a')) (hl : PO X lo (tO X.K fx W l')) (hh : PO X hi (tO X.K fx W h')) :
    PE X (.Subscript a (.Slice lo hi none p2) pos) (tE X.K fx W (.sl a' l' h')) :=
  PE.imp (pe_slice sl_D ha hl hh) fun σ H Q ⟨env, A, S, hE, hS, h⟩ => by
    unfold evE at h
    refine ⟨env, A, S, hE, hS, (RP.bind h).imp fun v H1 ⟨A1, S1, d, x1, s1, r1, h1⟩ => ?_⟩
    have hE1 := hE.mono x1 hS.noTup
    refine ⟨env, A1, S1, hE1, s1, ?_⟩
    have h2 := RPp.bind h1
    refine RPp.imp h2 fun o H2 ⟨A2, S2, x2, s2, h3⟩ => ?_
    have hE2 := hE1.mono x2 s1.noTup
    refine ⟨env, A2, S2, hE2, s2, RPp.imp (RPp.bind h3) fun u H3 ⟨A3, S3, x3, s3, h4⟩ => ?_⟩
    obtain ⟨z, h5, h6⟩ := RP.of h4
    exact ⟨A3, S3, d, z, s3, (r1.mono x2 s1.noTup).mono x3 s2.noTup, h5, h6⟩
end
end Rs
end

section
set_option Elab.async false
set_option linter.all false
set_option maxRecDepth 100000
set_option maxHeartbeats 1000000
set_option autoImplicit false
/-! RsComp: what is walked, targets, tests, comprehensions of any number of clauses. Own work over HandS. -/
namespace Rs
open PySem PySem.Spec PyProof.Rows L2

/-! ### what is walked -/
/-- the walk J gives the data ds, one by one -/
def Yl (K : PySem.W.Frag) (A : Ads) (H : Hp) (ds : List D) (J : L2.It) : Prop :=
  ∀ A' H', Ex A H A' H' → NoTup H' A' →
    (∀ (i : Nat) (d : D), ds[i]? = some d → J.go i H' ∧ ∀ x H'', J.yld i H' x H'' → (H'' = H' ∨ ∃ T o, H' T = none ∧ H'' = upd H' T o) ∧ Rp K H'' A' d x) ∧
    ∀ i : Nat, ds.length ≤ i → i ≤ ds.length → J.stop i H'
def RPi (K : PySem.W.Frag) (W : WX) (σ : L2.St) (A : Ads) (H : Hp) (r : R (List D)) (Q : L2.It → Hp → Prop) : Prop :=
  match r with
  | .ok ds S => ∀ J H' A', Ext A H A' H' → SR K H' A' S → Yl K A' H' ds J → Q J H'
  | .exc c S => Exo K W σ A H c S
  | .bad => False
def tI (K : PySem.W.Frag) (fx : Fx) (W : WX) (it : Rs.It) : TI := fun σ H R => ∃ env A S, EnvR K H A env σ ∧ SR K H A S ∧ RPi K W σ A H (evIt fx it env S) R
section
variable {K : PySem.W.Frag} {W : WX} {σ : L2.St} {A A' : Ads} {H H' : Hp}
theorem RPi.mono {r : R (List D)} {Q : L2.It → Hp → Prop} (h : RPi K W σ A H r Q) (x : Ext A H A' H') : RPi K W σ A' H' r Q := by
  cases r with
  | ok d S => exact fun J H2 A2 y s r => h J H2 A2 (x.trans y) s r
  | exc c S => exact Exo.mono h x
  | bad => exact h
theorem RPi.imp {r : R (List D)} {Q Q' : L2.It → Hp → Prop} (h : RPi K W σ A H r Q) (k : ∀ v H', Q v H' → Q' v H') : RPi K W σ A H r Q' := by
  cases r with
  | ok d S => exact fun J H2 A2 y s r => k _ _ (h J H2 A2 y s r)
  | exc c S => exact h
  | bad => exact h
theorem RP.bindi {r : R D} {f : D → Store → R (List D)} {Q : L2.It → Hp → Prop} (h : RPi K W σ A H (r.bind f) Q) :
    RP K W σ A H r fun v H1 => ∃ A1 S1 d, Ext A H A1 H1 ∧ SR K H1 A1 S1 ∧ Rp K H1 A1 d v ∧ RPi K W σ A1 H1 (f d S1) Q := by
  cases r with
  | ok d S => exact fun v H1 A1 x s r => ⟨A1, S, d, x, s, r, RPi.mono (r := f d S) h x⟩
  | exc c S => exact h
  | bad => exact h
theorem RPs.bindi {r : R (List D)} {f : List D → Store → R (List D)} {Q : L2.It → Hp → Prop} (h : RPi K W σ A H (r.bind f) Q) :
    RPs K W σ A H r fun v H1 => ∃ A1 S1 d, Ext A H A1 H1 ∧ SR K H1 A1 S1 ∧ Rps K H1 A1 d v ∧ RPi K W σ A1 H1 (f d S1) Q := by
  cases r with
  | ok d S => exact fun v H1 A1 x s r => ⟨A1, S, d, x, s, r, RPi.mono (r := f d S) h x⟩
  | exc c S => exact h
  | bad => exact h
theorem RPi.here {ds : List D} {S : Store} {Q : L2.It → Hp → Prop} (h : RPi K W σ A H (.ok ds S) Q) (s : SR K H A S) {J : L2.It} (y : Yl K A H ds J) : Q J H := h J H A (Ext.refl A H) s y
theorem yl_list {S : Store} (s : SR K H A S) {ds : List D} {vs : List V} {a : Addr} (h : H a = some (.lst vs)) (n : ¬ A.live a) (r : Rps K H A ds vs) : Yl K A H ds (Itl K a) := by
  intro A' H' x nt
  have h' := x.ls a vs n h
  have r' := r.monoE x s.noTup
  refine ⟨fun i d e => ?_, fun i hi _ => ⟨vs, SqL.of h', by rw [← r'.length]; exact hi⟩⟩
  obtain ⟨v, e1, r1⟩ := r'.get e
  refine ⟨⟨vs, v, SqL.of h', e1⟩, fun z H'' y => ?_⟩
  obtain ⟨rfl, y⟩ := y
  have := y vs (SqL.of h')
  rw [e1] at this
  cases this
  exact ⟨.inl rfl, r1⟩
theorem yl_tup {S : Store} (s : SR K H A S) {ds : List D} {vs : List V} {a : Addr} (h : SqT K H a vs) (r : Rps K H A ds vs) : Yl K A H ds (Itt K a) := by
  intro A' H' x nt
  have h' := x.sqT s.noTup h
  have r' := r.monoE x s.noTup
  refine ⟨fun i d e => ?_, fun i hi _ => ⟨vs, h', by rw [← r'.length]; exact hi⟩⟩
  obtain ⟨v, e1, r1⟩ := r'.get e
  refine ⟨⟨vs, v, h', e1⟩, fun z H'' y => ?_⟩
  obtain ⟨rfl, y⟩ := y
  have := y vs h'
  rw [e1] at this
  cases this
  exact ⟨.inl rfl, r1⟩
theorem rps_ints2 {K : PySem.W.Frag} {H : Hp} {A : Ads} : ∀ ns : List Int, Rps K H A (ns.map D.int) (ns.map V.int)
  | [] => Rps.nil
  | n :: r => Rps.cons rp_int (rps_ints2 r)
theorem yl_scr {ns : List Int} {a : Addr} (h : (Rd H a (.lst (ns.map V.int)) ∧ ¬ A.live a) ∨ ∀ H', SqL K H' a (ns.map V.int)) : Yl K A H (ns.map D.int) (Itl K a) := by
  intro A' H' x nt
  have h' : SqL K H' a (ns.map V.int) := by
    rcases h with ⟨h, n⟩ | h
    · exact .inl (x.rd a _ n h)
    · exact h H'
  refine ⟨fun i d e => ?_, fun i hi _ => ⟨_, h', by simpa using hi⟩⟩
  obtain ⟨v, e1, r1⟩ := (rps_ints2 (K := K) (H := H') (A := A') ns).get e
  refine ⟨⟨_, v, h', e1⟩, fun z H'' y => ?_⟩
  obtain ⟨rfl, y⟩ := y
  have := y _ h'
  rw [e1] at this
  cases this
  exact ⟨.inl rfl, r1⟩
theorem yl_str {x : Str} : Yl K A H (strD x) (Its x) := by
  intro A' H' _ _
  have hl : (strD x).length = x.cps.size := by unfold strD; simp
  refine ⟨fun i d e => ?_, fun i hi _ => by rw [hl] at hi; exact hi⟩
  have hi : i < x.cps.size := by rw [← hl]; exact (List.getElem?_eq_some_iff.mp e).1
  refine ⟨hi, fun z H'' y => ?_⟩
  obtain ⟨rfl, c, hc, rfl⟩ := y
  refine ⟨.inl rfl, ?_⟩
  unfold strD at e
  rw [List.getElem?_map, Array.getElem?_toList, hc] at e
  cases e
  exact rp_str
theorem yl_range {i j : Int} : Yl K A H (rangeI i j) (Itr i (j - i).toNat) := by
  intro A' H' _ _
  have hl : (rangeI i j).length = (j - i).toNat := by unfold rangeI; simp
  refine ⟨fun k d e => ?_, fun k hk _ => by rw [hl] at hk; exact hk⟩
  have hk : k < (j - i).toNat := by rw [← hl]; exact (List.getElem?_eq_some_iff.mp e).1
  refine ⟨hk, fun z H'' y => ?_⟩
  obtain ⟨rfl, rfl⟩ := y
  refine ⟨.inl rfl, ?_⟩
  unfold rangeI at e
  rw [List.getElem?_map, List.getElem?_range hk] at e
  cases e
  exact rp_int
end

/-! ### walked expressions -/
def iAny (K : PySem.W.Frag) (te : TE) : TI := fun σ H R => te σ H fun v H1 => (∃ a, v = .ref a ∧ (∃ xs, SqL K H1 a xs) ∧ R (Itl K a) H1) ∨ (∃ a, v = .ref a ∧ (∃ xs, SqT K H1 a xs) ∧ R (Itt K a) H1) ∨ ∃ x, v = .str x ∧ R (Its x) H1
section
variable {X : Cx} {fx : Fx} {W : WX} {pos : Pos} {tg : Expr}
theorem PI.imp {e : Expr} {t t' : TI} (h : PI X tg e t) (k : ∀ σ H Q, t' σ H Q → t σ H Q) : PI X tg e t' := ⟨fun pins s σ H Q I q => h.run pins s σ H Q I (k σ H Q q)⟩
theorem pi_any {e : Expr} {te : TE} (he : PE X e te) : PI X tg e (iAny X.K te) := by
  refine ⟨fun pins s σ H R I h => thn (he.run pins s σ H _ I h) fun v s1 ⟨y, H1, I1, r1, q⟩ => ?_⟩
  rcases q with ⟨a, rfl, ⟨xs, hq⟩, q⟩ | ⟨a, rfl, ⟨xs, hq⟩, q⟩ | ⟨x, rfl, q⟩
  · cases r1
    obtain ⟨its, _, p, _⟩ := I1.list hq
    exact wpAny_pyIter_list p.isList (pi_one (tk := s1.toks) I1 _ (turn_list a _) ⟨_, Heap.get?_push_size _ rfl, rfl, rfl⟩ q)
  · cases r1
    obtain ⟨its, _, p, _⟩ := I1.tuple hq
    exact wpAny_pyIter_tuple (show s1.heap.IsTuple a its.toArray from p) (pi_one (tk := s1.toks) I1 _ (turn_tuple a _) ⟨_, Heap.get?_push_size _ rfl, rfl, rfl⟩ q)
  · obtain ⟨t, rfl⟩ := r1
    by_cases ha : x.cps.all (· < 128) = true
    · exact wpAny_pyIter_ascii ha (pi_one (tk := s1.toks) I1 _ (turn_str _ x t "str_ascii_iterator" (.inl rfl)) ⟨_, Heap.get?_push_size _ rfl, rfl, rfl⟩ q)
    · exact wpAny_pyIter_wide (by simpa using ha) (pi_one (tk := s1.toks) I1 _ (turn_str _ x t "str_iterator" (.inr rfl)) ⟨_, Heap.get?_push_size _ rfl, rfl, rfl⟩ q)
theorem r_of {e : Expr} {e' : E} (he : PE X e (tE X.K fx W e')) : PI X tg e (tI X.K fx W (.of e')) :=
  PI.imp (pi_any he) fun σ H Q ⟨env, A, S, hE, hS, h⟩ => by
    unfold evIt at h
    refine ⟨env, A, S, hE, hS, (RP.bindi h).imp fun v H1 ⟨A1, S1, d, x1, s1, r1, h1⟩ => ?_⟩
    split at h1
    · obtain ⟨a, vs, rfl, q, r⟩ := r1.tup
      exact .inr (.inl ⟨a, rfl, ⟨_, q⟩, RPi.here h1 s1 (yl_tup s1 q r)⟩)
    · obtain ⟨a, vs, rfl, q, n, r⟩ := r1.lst
      exact .inl ⟨a, rfl, ⟨_, SqL.of q⟩, RPi.here h1 s1 (yl_list s1 q n r)⟩
    · rw [r1.str]
      exact .inr (.inr ⟨_, rfl, RPi.here h1 s1 yl_str⟩)
    · unfold Rp at r1
      obtain ⟨a, rfl, q⟩ := r1
      refine .inl ⟨a, rfl, ?_, RPi.here h1 s1 (yl_scr q)⟩
      rcases q with ⟨q, _⟩ | q
      · exact ⟨_, .inl q⟩
      · exact ⟨_, q H1⟩
    · exact h1.elim

theorem rps_nil_inv {K : PySem.W.Frag} {H : Hp} {A : Ads} {vs : List V} (h : Rps K H A [] vs) : vs = [] := by unfold Rps at h; exact h
theorem evEs_len {fx : Fx} : ∀ (es : Es) (n : Nat), esLen es = n → ∀ (env : Nv) (S S' : Store) (ds : List D), evEs fx es env S = .ok ds S' → ds.length = n
  | .nil, n, hn, env, S, S', ds, h => by
    unfold evEs at h
    cases h
    exact hn
  | .cons e es, n, hn, env, S, S', ds, h => by
    unfold evEs at h
    cases e1 : evE fx e env S with
    | bad => rw [e1] at h; cases h
    | exc c S1 => rw [e1] at h; cases h
    | ok d S1 =>
      rw [e1] at h
      have h : (evEs fx es env S1).bind (fun ds S => .ok (d :: ds) S) = .ok ds S' := h
      cases e2 : evEs fx es env S1 with
      | bad => rw [e2] at h; cases h
      | exc c S2 => rw [e2] at h; cases h
      | ok ds2 S2 =>
        rw [e2] at h
        cases h
        rw [List.length_cons, evEs_len es _ rfl env S1 _ ds2 e2]
        exact hn
theorem RPs.bindiE {K : PySem.W.Frag} {σ : L2.St} {A : Ads} {H : Hp} {r : R (List D)} {f : List D → Store → R (List D)} {Q : L2.It → Hp → Prop} (h : RPi K W σ A H (r.bind f) Q) :
    RPs K W σ A H r fun v H1 => ∃ A1 S1 d, r = .ok d S1 ∧ Ext A H A1 H1 ∧ SR K H1 A1 S1 ∧ Rps K H1 A1 d v ∧ RPi K W σ A1 H1 (f d S1) Q := by
  cases r with
  | ok d S => exact fun v H1 A1 x s r => ⟨A1, S, d, rfl, x, s, r, RPi.mono (r := f d S) h x⟩
  | exc c S => exact h
  | bad => exact h
theorem r_rng1 {a : Expr} {a' : E} {p : Pos} (hg : Gl X "range") (hm : X.mg "range" = none) (ha : PA X [a] (tEs X.K fx W (.cons a' .nil))) (hs : starEach [a] X.env = [(false, eval a X.env)]) :
    PI X tg (.Call (.Name "range" p) [a] [] pos) (tI X.K fx W (.rng (.cons a' .nil))) :=
  PI.imp (pi_range1 hg hm ha hs) fun σ H Q ⟨env, A, S, hE, hS, h⟩ => by
    unfold evIt at h
    refine ⟨env, A, S, hE, hS, RPs.imp (RPs.bindiE h) fun vs H1 ⟨A1, S1, ds, e1, x1, s1, r1, h1⟩ => ?_⟩
    have hl := evEs_len _ 1 rfl _ _ _ _ e1
    unfold rngD at h1
    split at h1
    · rename_i j
      obtain ⟨v, rfl, r2⟩ := rps1 r1
      have := r2.int
      subst this
      split at h1
      · rename_i hj
        rw [Bool.and_eq_true, decide_eq_true_eq, decide_eq_true_eq] at hj
        have y := yl_range (K := X.K) (A := A1) (H := H1) (i := 0) (j := j)
        rw [Int.sub_zero] at y
        exact ⟨j, rfl, by omega, by omega, RPi.here h1 s1 y⟩
      · exact h1.elim
    · cases hl
    · cases hl
    · exact h1.elim
theorem r_rng2 {a b : Expr} {a' b' : E} {p : Pos} (hg : Gl X "range") (hm : X.mg "range" = none) (ha : PA X [a, b] (tEs X.K fx W (.cons a' (.cons b' .nil)))) (hs : starEach [a, b] X.env = [(false, eval a X.env), (false, eval b X.env)]) (hs2 : starEach [b] X.env = [(false, eval b X.env)]) :
    PI X tg (.Call (.Name "range" p) [a, b] [] pos) (tI X.K fx W (.rng (.cons a' (.cons b' .nil)))) :=
  PI.imp (pi_range2 hg hm ha hs hs2) fun σ H Q ⟨env, A, S, hE, hS, h⟩ => by
    unfold evIt at h
    refine ⟨env, A, S, hE, hS, RPs.imp (RPs.bindiE h) fun vs H1 ⟨A1, S1, ds, e1, x1, s1, r1, h1⟩ => ?_⟩
    have hl := evEs_len _ 2 rfl _ _ _ _ e1
    unfold rngD at h1
    split at h1
    · cases hl
    · rename_i i j
      obtain ⟨v, u, rfl, r2, r3⟩ := rps2 r1
      have := r2.int
      subst this
      have := r3.int
      subst this
      split at h1
      · rename_i hj
        rw [Bool.and_eq_true, Bool.and_eq_true, Bool.and_eq_true, decide_eq_true_eq, decide_eq_true_eq, decide_eq_true_eq, decide_eq_true_eq] at hj
        exact ⟨i, j, rfl, ⟨by omega, by omega, by omega, by omega⟩, RPi.here h1 s1 yl_range⟩
      · exact h1.elim
    · cases hl
    · exact h1.elim
theorem rangeC_get : ∀ (a c : Int) (n i : Nat), (rangeC a c n)[i]? = if i < n then some (.int (a + i * c)) else none
  | a, c, 0, i => by unfold rangeC; simp
  | a, c, n + 1, 0 => by unfold rangeC; simp
  | a, c, n + 1, i + 1 => by
    unfold rangeC
    rw [List.getElem?_cons_succ, rangeC_get (a + c) c n i]
    by_cases h : i < n
    · rw [if_pos h, if_pos (by omega)]
      congr 2
      push_cast
      rw [Int.add_mul]
      omega
    · rw [if_neg h, if_neg (by omega)]
theorem rangeC_len : ∀ (a c : Int) (n : Nat), (rangeC a c n).length = n
  | a, c, 0 => rfl
  | a, c, n + 1 => by unfold rangeC; rw [List.length_cons, rangeC_len (a + c) c n]
theorem yl_rangeC {K : PySem.W.Frag} {A : Ads} {H : Hp} {i c : Int} {n : Nat} : Yl K A H (rangeC i c n) (Itc i c n) := by
  intro A' H' _ _
  refine ⟨fun k d e => ?_, fun k hk _ => by rw [rangeC_len] at hk; exact hk⟩
  rw [rangeC_get] at e
  split at e
  · rename_i hk
    cases e
    refine ⟨hk, fun z H'' y => ?_⟩
    obtain ⟨rfl, rfl⟩ := y
    exact ⟨.inl rfl, rp_int⟩
  · cases e
theorem r_rng3 {a b c : Expr} {a' b' c' : E} {p : Pos} (hg : Gl X "range") (hm : X.mg "range" = none) (ha : PA X [a, b, c] (tEs X.K fx W (.cons a' (.cons b' (.cons c' .nil)))))
    (hs : starEach [a, b, c] X.env = (false, eval a X.env) :: starEach [b, c] X.env) (hpl : (backTo pos (starEach [b, c] X.env)).any (·.1) = false) :
    PI X tg (.Call (.Name "range" p) [a, b, c] [] pos) (tI X.K fx W (.rng (.cons a' (.cons b' (.cons c' .nil))))) :=
  PI.imp (pi_range3 hg hm ha hs hpl) fun σ H Q ⟨env, A, S, hE, hS, h⟩ => by
    unfold evIt at h
    refine ⟨env, A, S, hE, hS, RPs.imp (RPs.bindiE h) fun vs H1 ⟨A1, S1, ds, e1, x1, s1, r1, h1⟩ => ?_⟩
    have hl := evEs_len _ 3 rfl _ _ _ _ e1
    unfold rngD at h1
    split at h1
    · cases hl
    · cases hl
    · rename_i i j c
      obtain ⟨v, vs2, rfl, r2, r3⟩ := r1.inv
      obtain ⟨u, w, rfl, r4, r5⟩ := rps2 r3
      have := r2.int
      subst this
      have := r4.int
      subst this
      have := r5.int
      subst this
      split at h1
      · rename_i hj
        rw [Bool.and_eq_true, Bool.and_eq_true, Bool.and_eq_true, Bool.and_eq_true, decide_eq_true_eq, decide_eq_true_eq, decide_eq_true_eq, decide_eq_true_eq] at hj
        have hc : c = -1 := by simpa using hj.2
        subst hc
        exact ⟨i, j, -1, _, rfl, RgC.neg (by omega) (by omega) (by omega) (by omega), RPi.here h1 s1 yl_rangeC⟩
      · exact h1.elim
    · exact h1.elim
/-! ### enumerate, zip -/
theorem enu_get : ∀ (xs : List D) (n i : Nat), (enuD n xs)[i]? = xs[i]?.map fun d => .tup [.int ((n + i : Nat) : Int), d]
  | [], n, i => by unfold enuD; simp
  | x :: xs, n, 0 => by unfold enuD; simp
  | x :: xs, n, i + 1 => by
    unfold enuD
    rw [List.getElem?_cons_succ, List.getElem?_cons_succ, enu_get xs (n + 1) i]
    have : n + 1 + i = n + (i + 1) := by omega
    rw [this]
theorem enu_len : ∀ (xs : List D) (n : Nat), (enuD n xs).length = xs.length
  | [], n => rfl
  | x :: xs, n => by unfold enuD; rw [List.length_cons, List.length_cons, enu_len xs (n + 1)]
theorem ex_new {A : Ads} {H : Hp} {p : Addr} {o : HO} (hp : H p = none) : Ex A H A (upd H p o) where
  rd := fun a u _ r => by
    have : a ≠ p := fun z => rd_ne r (by rw [z]; exact hp)
    rcases r with r | ⟨o', r⟩
    · exact .inl (by rw [upd_ne this]; exact r)
    · exact .inr ⟨o', by rw [upd_ne this]; exact r⟩
  ls := fun a u _ r => by
    have : a ≠ p := fun z => by rw [z, hp] at r; cases r
    rw [upd_ne this]; exact r
  pre := fun _ _ b h => ⟨b, h⟩
  new := fun _ h => .inl h
theorem yl_enum {K : PySem.W.Frag} {A : Ads} {H : Hp} {S : Store} (s : SR K H A S) {ds : List D} {vs : List V} {a : Addr} (h : H a = some (.lst vs)) (n : ¬ A.live a) (r : Rps K H A ds vs) : Yl K A H (enuD 0 ds) (Ite K a) := by
  intro A' H' x nt
  have h' := x.ls a vs n h
  have r' := r.monoE x s.noTup
  refine ⟨fun i d e => ?_, fun i hi _ => ⟨vs, SqL.of h', by rw [← r'.length]; rw [enu_len] at hi; exact hi⟩⟩
  rw [enu_get] at e
  obtain ⟨d0, e0, rfl⟩ := Option.map_eq_some_iff.mp e
  obtain ⟨v, e1, r1⟩ := r'.get e0
  refine ⟨⟨vs, v, SqL.of h', e1⟩, fun z H'' y => ?_⟩
  obtain ⟨T, w, rfl, hT, rfl, y⟩ := y
  have := y vs (SqL.of h')
  rw [e1] at this
  cases this
  refine ⟨.inr ⟨T, _, hT, rfl⟩, ?_⟩
  have e : (0 + i : Nat) = i := Nat.zero_add i
  rw [e]
  exact rp_tup (SqT.of upd_same) (.cons rp_int (.cons (r1.monoE (ex_new hT) nt) .nil))
theorem zip_get : ∀ (xs ys : List D) (i : Nat) (d : D), (zipD xs ys)[i]? = some d → ∃ a b, xs[i]? = some a ∧ ys[i]? = some b ∧ d = .tup [a, b]
  | [], ys, i, d, h => by unfold zipD at h; simp at h
  | x :: xs, [], i, d, h => by unfold zipD at h; simp at h
  | x :: xs, y :: ys, 0, d, h => by
    unfold zipD at h
    cases h
    exact ⟨x, y, rfl, rfl, rfl⟩
  | x :: xs, y :: ys, i + 1, d, h => by
    unfold zipD at h
    exact zip_get xs ys i d h
theorem zip_len : ∀ (xs ys : List D), (zipD xs ys).length = min xs.length ys.length
  | [], ys => by unfold zipD; simp
  | x :: xs, [] => by unfold zipD; simp
  | x :: xs, y :: ys => by unfold zipD; rw [List.length_cons, List.length_cons, List.length_cons, zip_len xs ys]; omega
theorem yl_zipL {K : PySem.W.Frag} {A : Ads} {H : Hp} {S : Store} (s : SR K H A S) {ds es : List D} {vs us : List V} {a b : Addr} (h : H a = some (.lst vs)) (n : ¬ A.live a) (r : Rps K H A ds vs)
    (h2 : H b = some (.lst us)) (n2 : ¬ A.live b) (r2 : Rps K H A es us) : Yl K A H (zipD ds es) (Itz K a b) := by
  intro A' H' x nt
  have k1 := x.ls a vs n h
  have k2 := x.ls b us n2 h2
  have q1 := r.monoE x s.noTup
  have q2 := r2.monoE x s.noTup
  refine ⟨fun i d e => ?_, fun i hi _ => ⟨vs, us, SqL.of k1, SqL.of k2, ?_⟩⟩
  · obtain ⟨d1, d2, g1, g2, rfl⟩ := zip_get _ _ _ _ e
    obtain ⟨v, e1, w1⟩ := q1.get g1
    obtain ⟨u, e2, w2⟩ := q2.get g2
    refine ⟨⟨vs, us, v, u, SqL.of k1, SqL.of k2, e1, e2⟩, fun z H'' y => ?_⟩
    obtain ⟨T, w, w', rfl, hT, rfl, y1, y2⟩ := y
    have z1 := y1 vs (SqL.of k1)
    rw [e1] at z1
    cases z1
    have z2 := y2 us (SqL.of k2)
    rw [e2] at z2
    cases z2
    exact ⟨.inr ⟨T, _, hT, rfl⟩, rp_tup (SqT.of upd_same) (.cons (w1.monoE (ex_new hT) nt) (.cons (w2.monoE (ex_new hT) nt) .nil))⟩
  · rw [zip_len] at hi
    rw [← q1.length, ← q2.length]
    omega
theorem yl_zipT {K : PySem.W.Frag} {A : Ads} {H : Hp} {S : Store} (s : SR K H A S) {ds es : List D} {vs us : List V} {a b : Addr} (h : SqT K H a vs) (r : Rps K H A ds vs)
    (h2 : SqT K H b us) (r2 : Rps K H A es us) : Yl K A H (zipD ds es) (RZ.ItzT K a b) := by
  intro A' H' x nt
  have k1 := x.sqT s.noTup h
  have k2 := x.sqT s.noTup h2
  have q1 := r.monoE x s.noTup
  have q2 := r2.monoE x s.noTup
  refine ⟨fun i d e => ?_, fun i hi _ => ⟨vs, us, k1, k2, ?_⟩⟩
  · obtain ⟨d1, d2, g1, g2, rfl⟩ := zip_get _ _ _ _ e
    obtain ⟨v, e1, w1⟩ := q1.get g1
    obtain ⟨u, e2, w2⟩ := q2.get g2
    refine ⟨⟨vs, us, v, u, k1, k2, e1, e2⟩, fun z H'' y => ?_⟩
    obtain ⟨T, w, w', rfl, hT, rfl, y1, y2⟩ := y
    have z1 := y1 vs k1
    rw [e1] at z1
    cases z1
    have z2 := y2 us k2
    rw [e2] at z2
    cases z2
    exact ⟨.inr ⟨T, _, hT, rfl⟩, rp_tup (SqT.of upd_same) (.cons (w1.monoE (ex_new hT) nt) (.cons (w2.monoE (ex_new hT) nt) .nil))⟩
  · rw [zip_len] at hi
    rw [← q1.length, ← q2.length]
    omega
theorem r_zip {elts : List Expr} {kk : Nat} {tpos p : Pos} {e e2 : Expr} {a' b' : E} (hg : Gl X "zip") (hm : X.mg "zip" = none) (ha : PA X [e, e2] (tEs X.K fx W (.cons a' (.cons b' .nil))))
    (hs : starEach [e, e2] X.env = (false, eval e X.env) :: starEach [e2] X.env) (hpl : (backTo pos (starEach [e2] X.env)).any (·.1) = false) :
    PI X (.Tuple elts kk tpos) (.Call (.Name "zip" p) [e, e2] [] pos) (tI X.K fx W (.zip a' b')) :=
  PI.imp (RZ.pi_zipA hg hm ha hs hpl) fun σ H Q ⟨env, A, S, hE, hS, h⟩ => by
    unfold evIt at h
    refine ⟨env, A, S, hE, hS, ?_⟩
    unfold evEs
    cases r : evE fx a' env S with
    | bad => rw [r] at h; exact h.elim
    | exc c S1 => rw [r] at h; exact h
    | ok d S1 =>
      rw [r] at h
      have h : RPi X.K W σ A H ((evE fx b' env S1).bind _) Q := h
      show RPs X.K W σ A H ((evEs fx (.cons b' .nil) env S1).bind _) _
      unfold evEs
      cases r2 : evE fx b' env S1 with
      | bad => rw [r2] at h; exact h.elim
      | exc c S2 => rw [r2] at h; exact h
      | ok d2 S2 =>
        rw [r2] at h
        show Outs X.K A H S2 [d, d2] _
        intro vs H1 A1 x1 s1 q1
        obtain ⟨v, u, rfl, w1, w2⟩ := rps2 q1
        cases d <;> first | exact False.elim h | skip
        · cases d2 <;> first | exact False.elim h | skip
          have h := RPi.mono (r := .ok _ S2) h x1
          obtain ⟨a, us, rfl, q, r⟩ := w1.tup
          obtain ⟨b, us2, rfl, q', r'⟩ := w2.tup
          exact ⟨a, b, us, us2, rfl, .inr ⟨q, q', RPi.here h s1 (yl_zipT s1 q r q' r')⟩⟩
        · cases d2 <;> first | exact False.elim h | skip
          have h := RPi.mono (r := .ok _ S2) h x1
          obtain ⟨a, us, rfl, q, n, r⟩ := w1.lst
          obtain ⟨b, us2, rfl, q', n', r'⟩ := w2.lst
          exact ⟨a, b, us, us2, rfl, .inl ⟨SqL.of q, SqL.of q', RPi.here h s1 (yl_zipL s1 q n r q' n' r')⟩⟩
end

/-! ### targets -/
def RG (K : PySem.W.Frag) (W : WX) (σ : L2.St) (A : Ads) (H : Hp) (vs : List Nat) (r : R Nv) (Q : L2.St → Hp → Prop) : Prop :=
  match r with
  | .ok env1 S => ∀ σ' H' A', Ext A H A' H' → SR K H' A' S → EnvR K H' A' env1 σ' → σ'.length = σ.length → (∀ j, j ∉ vs → σ'[j]? = σ[j]?) → Q σ' H'
  | .exc c S => Exo K W σ A H c S
  | .bad => False
def tG (K : PySem.W.Frag) (fx : Fx) (W : WX) (t : Tg) : TG := fun x σ H Q => ∃ env A S d, EnvR K H A env σ ∧ SR K H A S ∧ Rp K H A d x ∧ RG K W σ A H (slT t) (bindT fx t d env S) Q
def tGs (K : PySem.W.Frag) (fx : Fx) (W : WX) (t : Tgs) : TGs := fun xs σ H Q => ∃ env A S ds, EnvR K H A env σ ∧ SR K H A S ∧ Rps K H A ds xs ∧ RG K W σ A H (slTs t) (bindTs fx t ds env S) Q
section
variable {X : Cx} {fx : Fx} {W : WX} {pos : Pos}
theorem PG.imp {e : Expr} {t t' : TG} (h : PG X e t) (k : ∀ x σ H Q, t' x σ H Q → t x σ H Q) : PG X e t' := ⟨fun pins s σ H v u Q I r q => h.run pins s σ H v u Q I r (k v σ H Q q)⟩
theorem PGs.imp {e : List Expr} {t t' : TGs} (h : PGs X e t) (k : ∀ x σ H Q, t' x σ H Q → t x σ H Q) : PGs X e t' := ⟨fun pins s σ H v u Q I r q => h.run pins s σ H v u Q I r (k v σ H Q q)⟩
theorem r_gnm {i : Nat} {x : Str} (hN : X.N.Nodup) (hi : X.N[i]? = some x) (hx : Loc X.env.scope x) (hf : X.fn x = true ∨ X.env.scope.names.lookup x = some .local) : PG X (.Name x pos) (tG X.K fx W (.nm i)) :=
  PG.imp (pg_name hN hi hx hf) fun x σ H Q ⟨env, A, S, d, hE, hS, hd, h⟩ => by
    unfold bindT at h
    refine h (σ.set i (some x)) H A (Ext.refl A H) hS (hE.set i hd) (by simp) fun j hj => ?_
    rw [List.getElem?_set_ne]
    rintro rfl
    exact hj (by unfold slT; exact List.mem_singleton.mpr rfl)
theorem r_gnil : PGs X [] (tGs X.K fx W .nil) :=
  PGs.imp pgs_nil fun xs σ H Q ⟨env, A, S, ds, hE, hS, hd, h⟩ => by
    cases ds with
    | nil =>
      unfold bindTs at h
      exact ⟨rps_nil_inv hd, h σ H A (Ext.refl A H) hS hE rfl fun _ _ => rfl⟩
    | cons d ds => unfold bindTs at h; exact h.elim
theorem r_gcons {e : Expr} {es : List Expr} {t : Tg} {ts : Tgs} (h1 : PG X e (tG X.K fx W t)) (h2 : PGs X es (tGs X.K fx W ts)) (hs : (assignEach (e :: es) X.env).map (·.2) = assign e X.env :: (assignEach es X.env).map (·.2)) :
    PGs X (e :: es) (tGs X.K fx W (.cons t ts)) :=
  PGs.imp (pgs_cons h1 h2 hs) fun xs σ H Q ⟨env, A, S, ds, hE, hS, hd, h⟩ => by
    cases ds with
    | nil => unfold bindTs at h; exact h.elim
    | cons d ds =>
      obtain ⟨v, r, rfl, r1, r2⟩ := hd.inv
      unfold bindTs at h
      refine ⟨v, r, rfl, env, A, S, d, hE, hS, r1, ?_⟩
      cases e1 : bindT fx t d env S with
      | bad => rw [e1] at h; exact h.elim
      | exc c S1 => rw [e1] at h; exact h.elim
      | ok env1 S1 =>
        rw [e1] at h
        intro σ' H' A' x s' hE' hl hk
        refine ⟨env1, A', S1, ds, hE', s', r2.mono x hS.noTup, ?_⟩
        cases e2 : bindTs fx ts ds env1 S1 with
        | bad => simp only [e2] at h; exact h.elim
        | exc c S2 => simp only [e2] at h; exact h.elim
        | ok env2 S2 =>
          simp only [e2] at h
          intro σ2 H2 A2 y s2 hE2 hl2 hk2
          refine h σ2 H2 A2 (x.trans y) s2 hE2 (hl2.trans hl) fun j hj => ?_
          unfold slTs at hj
          rw [hk2 j fun z => hj (List.mem_append_right _ z), hk j fun z => hj (List.mem_append_left _ z)]
theorem PG_or {e : Expr} {t t' : TG} (h : PG X e t) (h' : PG X e t') : PG X e (fun x σ H Q => t x σ H Q ∨ t' x σ H Q) :=
  ⟨fun pins s σ H v u Q I r q => q.elim (fun q => h.run pins s σ H v u Q I r q) fun q => h'.run pins s σ H v u Q I r q⟩
theorem r_gtup {es : List Expr} {k : Nat} {ts : Tgs} {n : Nat} (hc : X.calm = true) (h : PGs X es (tGs X.K fx W ts)) (hn : (assignEach es X.env).length = n) (hst : (assignEach es X.env).findIdx? (·.1) = none) (hl : tgsLen ts = n) :
    PG X (.Tuple es k pos) (tG X.K fx W (.tup ts)) :=
  PG.imp (PG_or (pg_tup (n := n) hc h hn hst) (pg_unl (n := n) hc h hn hst)) fun x σ H Q ⟨env, A, S, d, hE, hS, hd, h⟩ => by
    unfold bindT at h
    cases e : seqOf S d with
    | none => rw [e] at h; exact h.elim
    | some xs =>
      rw [e] at h
      dsimp only at h
      split at h
      · rename_i hx
        obtain ⟨a, vs, rfl, q, r⟩ := seq_of hS hd e
        have hv : vs.length = n := by rw [← r.length, ← hl]; exact hx
        rcases q with q | q
        · exact .inr ⟨a, vs, rfl, q, hv, env, A, S, xs, hE, hS, r, h⟩
        · exact .inl ⟨a, vs, rfl, q, hv, env, A, S, xs, hE, hS, r, h⟩
      · exact h.elim

/-! ### a clause's tests -/
def RTs (K : PySem.W.Frag) (W : WX) (σ : L2.St) (A : Ads) (H : Hp) (r : R Bool) (Q : Bool → Hp → Prop) : Prop :=
  match r with
  | .ok b S => ∀ A' H', Ext A H A' H' → SR K H' A' S → Q b H'
  | .exc c S => Exo K W σ A H c S
  | .bad => False
def tTs (K : PySem.W.Frag) (fx : Fx) (W : WX) (c : Es) : TT := fun σ H Q => ∃ env A S, EnvR K H A env σ ∧ SR K H A S ∧ RTs K W σ A H (evTs fx c env S) Q
theorem PTs.imp {e : List Expr} {t t' : TT} (h : PTs X e t) (k : ∀ σ H Q, t' σ H Q → t σ H Q) : PTs X e t' := ⟨fun pins s σ H Q I q => h.run pins s σ H Q I (k σ H Q q)⟩
theorem r_tnil : PTs X [] (tTs X.K fx W .nil) :=
  PTs.imp pts_nil fun σ H Q ⟨env, A, S, hE, hS, h⟩ => by
    unfold evTs at h
    exact h A H (Ext.refl A H) hS
theorem r_tone {c : Expr} {c' : E} (hc : PT X c (tT X.K fx W c')) : PTs X [c] (tTs X.K fx W (.cons c' .nil)) :=
  PTs.imp (pts_one hc) fun σ H Q ⟨env, A, S, hE, hS, h⟩ => by
    unfold evTs at h
    refine ⟨env, A, S, hE, hS, ?_⟩
    cases r : evE fx c' env S with
    | bad => rw [r] at h; exact h.elim
    | exc k S1 => rw [r] at h; exact h
    | ok d S1 =>
      rw [r] at h
      have h : RTs X.K W σ A H (R.of (truth S1 d) S1) Q := h
      cases t : truth S1 d with
      | none => rw [t] at h; exact h.elim
      | some b =>
        rw [t] at h
        exact ⟨b, t, h⟩
end
end Rs
end

section
set_option Elab.async false
set_option linter.all false
set_option maxRecDepth 100000
set_option maxHeartbeats 2000000
set_option autoImplicit false
/-! RsEnum: enumerate of a tuple. Own work; the steps follow the library's for lists. -/
namespace Rs
open PySem PySem.Spec PyProof.Rows L2
open AutoSeq1 (wpAny_loadPart')

abbrev tupIt (l : Addr) : Obj := { cls := .type "tuple_iterator", data := .fields #[.ref l, .int 0 0] }
abbrev enumOf (it : Addr) : Obj := { cls := .type "enumerate", data := .fields #[.none, .bool false, .ref it, rawInt 0, .none, .none] }
theorem meets_enumT (l : Addr) (items : Array Value) (n : Nat) (dct : Option Addr) (sl : Array (Option Value)) :
    Meets (Builtin.«enumerate.__new__» ⟨[.type "enumerate", .ref l], []⟩) (fun _ R s => s.heap.get? l = some { cls := .type "tuple", dict := dct, data := .seq items n, slots := sl } ∧
      R (.ok (.ret (.ref (s.heap.push (tupIt l)).objs.size))) { s with heap := (s.heap.push (tupIt l)).push (enumOf s.heap.objs.size) }) :=
  .of_wp fun prog w A R s h => by
    obtain ⟨hp, g, d, tk, os⟩ := s
    obtain ⟨hl, h⟩ := h
    have hsub := sub_enumerate
    have hT : Heap.IsTuple (Shared.heap ⟨hp, g, d, tk, os⟩) l items := ⟨_, hl, rfl, n, rfl⟩
    wp_walk using wpAny_loadPart' hl
    refine wpAny_stack_any fun st => wpAny_pure ?_
    split
    · rename_i c _ _ _ _ _
      cases (c == Value.type "enumerate") <;>
      · wp_walk using wpAny_loadPart' hl, wpAny_pyIter_tuple hT
        exact ⟨_, rfl, h⟩
    · wp_walk using wpAny_loadPart' hl, wpAny_pyIter_tuple hT
      exact ⟨_, rfl, h⟩
theorem call_enumT {prog : Program} {w : World} {A : Around} {E : Value → Shared → Prop} {s : Shared} {l : Addr} {items : Array Value} {Q : Value → Shared → Prop} (hL : s.heap.IsTuple l items)
    (h : ∀ h', IsEnum h' (s.heap.objs.size + 1) s.heap.objs.size 0 .none → h'.IsTupleIter s.heap.objs.size l 0 → (∀ b o, s.heap.get? b = some o → h'.get? b = some o) → Q (.ref (s.heap.objs.size + 1)) { s with heap := h' }) :
    wpAny (model prog w) A (call (.type "enumerate") [.ref l]) Q E s := by
  obtain ⟨⟨c, dct, dt, sl⟩, hl, hc, n, hd⟩ := hL
  have hc' : c = .type "tuple" := hc
  have hd' : dt = .seq items n := hd
  subst hc' hd'
  refine callType_new F.called_enumerate (by decide) (F.typeCall_enumerate_1 _) (F.newCall_enumerate_1 _) (fun obj => F.args_object_init_2 obj _) F.entry_enumerate_new (meets_enumT l items n dct sl) ⟨hl, ?_⟩
  have hz : (s.heap.push (tupIt l)).objs.size = s.heap.objs.size + 1 := Heap.size_push ..
  show _ ∧ _
  rw [hz]
  have he : IsEnum ((s.heap.push (tupIt l)).push (enumOf s.heap.objs.size)) (s.heap.objs.size + 1) s.heap.objs.size 0 .none := by
    have q := Heap.get?_push_size (s.heap.push (tupIt l)) (o := enumOf s.heap.objs.size) rfl
    rw [hz] at q
    exact q
  exact ⟨⟨_, he, rfl⟩, h _ he ⟨_, Heap.get?_push_of_some _ (Heap.get?_push_size _ rfl), rfl, rfl⟩ fun b o x => Heap.get?_push_of_some _ (Heap.get?_push_of_some _ x)⟩
/-- the tuple at a, each item in a new pair -/
def IteT (K : PySem.W.Frag) (a : Addr) : L2.It :=
  ⟨fun i H => ∃ (xs : List V) (x : V), SqT K H a xs ∧ xs[i]? = some x, fun i H v H' => ∃ T x, v = .ref T ∧ H T = none ∧ H' = upd H T (.tup [.int (i : Nat), x]) ∧ ∀ xs, SqT K H a xs → xs[i]? = some x, fun i H => ∃ xs : List V, SqT K H a xs ∧ xs.length = i⟩
theorem turn_enumT {P : Program} {w : World} {K : PySem.W.Frag} {elts : List Expr} {kk : Nat} {tpos : Pos} (a e it : Addr) :
    Turn P w K (.Tuple elts kk tpos) (IteT K a) [e, it] e (fun i h => (∃ old, IsEnum h e it ((i : Nat) : Int) old) ∧ h.IsTupleIter it a i ∧ e ≠ it) where
  mem := by simp
  obj := fun i h st b hb => by
    obtain ⟨⟨old, he⟩, ⟨o, ho, hc, hd⟩, _⟩ := st
    rcases List.mem_cons.mp hb with z | z
    · rw [z]; exact ⟨_, he, fun v q => nomatch q⟩
    · rw [List.mem_singleton.mp z]; exact ⟨o, ho, fun v q => by rw [hd] at q; cases q⟩
  keep := fun i h h' ⟨⟨old, he⟩, hi, hne⟩ k => ⟨⟨old, k e (by simp) _ he⟩, hi.at fun o q => k it (by simp) o q, hne⟩
  item := by
    intro X hP hw hK hc i pins s σ H E I hf ⟨⟨old, he⟩, hit, hne⟩ ⟨xs, x, hq, hx⟩
    subst hP hw hK
    obtain ⟨its, rv, p, hz⟩ := I.tuple hq
    obtain ⟨u, hu, ru⟩ := rv.get hx
    have hel : e < s.heap.objs.size := Heap.lt_size he
    have hil : it < s.heap.objs.size := by obtain ⟨_, q, _⟩ := hit; exact Heap.lt_size q
    have hai : a ≠ it := fun z => by
      obtain ⟨o1, q1, c1, _⟩ := hit
      obtain ⟨o2, q2, c2, _⟩ := p
      rw [z, q1] at q2
      cases q2
      rw [c1] at c2
      exact absurd c2 (by decide)
    have hh1 : X.A.in1.handled = none := I.ok.hd hc
    have hui : its.toArray[i]? = some u := by simpa using hu
    have hlt : i < its.toArray.size := (Array.getElem?_eq_some_iff.mp hui).1
    have hea : e ∉ [it, a] := fun z => by
      rcases List.mem_cons.mp z with z | z
      · exact hne z
      · have z := List.mem_singleton.mp z
        obtain ⟨o2, q2, c2, _⟩ := p
        rw [← z] at q2
        have he' : s.heap.get? e = some _ := he
        rw [he'] at q2
        cases q2
        exact absurd (Value.type.inj (show Value.type "enumerate" = Value.type "tuple" from c2)) (by decide)
    refine wpAny_pyNext_enum_itemD (Draws.tuple (prog := X.prog) (w := X.w) hh1 it a hai its.toArray) he ⟨hit, p⟩ hlt hne hea fun y h' tk hy ho st' hT hsz hk => ?_
    rw [hui] at hy
    cases hy
    refine ⟨_, rfl, wpAny_letOwnedTupleGo_enum (s := { s with heap := h', toks := tk + 1 }) ho fun h'' he' sb => ?_⟩
    have hT2 : h''.get? s.heap.objs.size = some { cls := .type "tuple", data := .seq #[.int i tk, u] } := (sb.2 _ (Nat.ne_of_gt hel)).trans hT
    have new : ObjOk X.prog X.w (upd H s.heap.objs.size (.tup [.int (i : Nat), x])) h'' s.heap.objs.size (.tup [.int (i : Nat), x]) := ⟨by show 2 ≤ sizeLine; decide, [.int i tk, u], .cons ⟨_, rfl⟩ (.cons ru .nil), ⟨_, hT2, rfl, _, rfl⟩⟩
    have I1 : Inv X pins σ (upd H s.heap.objs.size (.tup [.int (i : Nat), x])) { s with heap := h'', toks := tk + 1 } :=
      I.turnedNew (ch := [e, it]) (fun b ob hb q => (sb.2 b (fun z => hb (by simp [z]))).trans (hk b ob (fun z => hb (by simp [z])) (fun z => hb (by simp [z])) q)) hf (Nat.le_refl _) new
    refine ⟨.ref s.heap.objs.size, _, I1, rfl, ⟨_, x, rfl, I.hok.fresh (Nat.le_refl _), rfl, fun ys hy => by rw [I.tuple_inj hy hq]; exact hx⟩, ⟨⟨u, ?_⟩, st'.1.at fun o q => (sb.2 it (Ne.symm hne)).trans q, hne⟩, fun b hb => ?_⟩
    · have e1 : ((i + 1 : Nat) : Int) = (i : Int) + 1 := by omega
      rw [e1]; exact he'
    · have hb' : b < s.heap.objs.size := (List.mem_cons.mp hb).elim (fun z => by rw [z]; exact hel) fun z => by rw [List.mem_singleton.mp z]; exact hil
      rw [upd_ne (Nat.ne_of_lt hb')]
      exact (hf b hb).1
  done := by
    intro X hP hw hK hc i pins s σ H E I hf ⟨⟨old, he⟩, hit, hne⟩ ⟨xs, hq, hx⟩
    subst hP hw hK
    obtain ⟨its, rv, p, hz⟩ := I.tuple hq
    obtain ⟨f0, f1, f2, f3, f4, f5⟩ := hf it (by simp)
    have hl := rv.length
    have hh1 : X.A.in1.handled = none := I.ok.hd hc
    have hai : a ≠ it := fun z => by
      obtain ⟨o1, q1, c1, _⟩ := hit
      obtain ⟨o2, q2, c2, _⟩ := p
      rw [z, q1] at q2
      cases q2
      rw [c1] at c2
      exact absurd c2 (by decide)
    have hn : its.toArray.size = i := by simp; omega
    have D := Draws.tuple (prog := X.prog) (w := X.w) hh1 it a hai its.toArray
    rw [hn] at D
    exact wpAny_pyNext_enum_endD D he ⟨hit, p⟩ fun h' eb => ⟨rfl, I.turned (t' := s.toks) (fun b o hb q => eb b o hb q) f0 f1 f3 f4 f5⟩
  self := fun A i s Q E st h => let ⟨⟨_, he⟩, _⟩ := st; wpAny_pyIter_enum he h

def iEnumA (K : PySem.W.Frag) (ta : TA) : TI := fun σ H R => ta σ H fun vs H1 => ∃ a xs, vs = [.ref a] ∧ ((SqL K H1 a xs ∧ R (Ite K a) H1) ∨ (SqT K H1 a xs ∧ R (IteT K a) H1))
theorem pi_enumA {X : Cx} {e : Expr} {ta : TA} {p pos tpos : Pos} {elts : List Expr} {kk : Nat} (hg : Gl X "enumerate") (hm : X.mg "enumerate" = none) (ha : PA X [e] ta) (hs : starEach [e] X.env = [(false, eval e X.env)]) :
    PI X (.Tuple elts kk tpos) (.Call (.Name "enumerate" p) [e] [] pos) (iEnumA X.K ta) := by
  refine ⟨fun pins s σ H R I h => ?_⟩
  refine Call_ (ld_blt I hg hm boot_enumerate (PyProof.Rows.callWith_type1 (thn (ha.run pos pins s σ H _ I h) fun us s1 ⟨vs, H1, I1, r1, q1⟩ => ?_) hs rfl))
  obtain ⟨a, xs, rfl, q⟩ := q1
  rw [Vals.ref1 r1]
  have fps : ∀ b ∈ [s1.heap.objs.size + 1, s1.heap.objs.size], FpOk X pins H1 b := fun b hb => by
    have hle : s1.heap.objs.size ≤ b := (List.mem_cons.mp hb).elim (fun z => by rw [z]; exact Nat.le_add_right _ _) fun z => Nat.le_of_eq (List.mem_singleton.mp z).symm
    exact I1.fpOk hle (I1.hok.fresh hle)
  rcases q with ⟨hq, q⟩ | ⟨hq, q⟩
  · obtain ⟨its, rv, p', hz⟩ := I1.list hq
    exact call_enumerate_list p'.isList fun h' he hit hsz hk => wpAny_pyIter_enum he ⟨_, _, _, _, H1, rfl, I1.kept (t' := s1.toks) hk, turn_enum a (s1.heap.objs.size + 1) s1.heap.objs.size, ⟨⟨.none, he⟩, hit, Nat.succ_ne_self _⟩, fps, q⟩
  · obtain ⟨its, rv, p', hz⟩ := I1.tuple hq
    exact call_enumT p' fun h' he hit hk => wpAny_pyIter_enum he ⟨_, _, _, _, H1, rfl, I1.kept (t' := s1.toks) hk, turn_enumT a (s1.heap.objs.size + 1) s1.heap.objs.size, ⟨⟨.none, he⟩, hit, Nat.succ_ne_self _⟩, fps, q⟩
theorem yl_enumT {K : PySem.W.Frag} {A : Ads} {H : Hp} {S : Store} (s : SR K H A S) {ds : List D} {vs : List V} {a : Addr} (h : SqT K H a vs) (r : Rps K H A ds vs) : Yl K A H (enuD 0 ds) (IteT K a) := by
  intro A' H' x nt
  have h' := x.sqT s.noTup h
  have r' := r.monoE x s.noTup
  refine ⟨fun i d e => ?_, fun i hi hi2 => ⟨vs, h', by rw [← r'.length]; rw [enu_len] at hi hi2; omega⟩⟩
  rw [enu_get] at e
  obtain ⟨d0, e0, rfl⟩ := Option.map_eq_some_iff.mp e
  obtain ⟨v, e1, r1⟩ := r'.get e0
  refine ⟨⟨vs, v, h', e1⟩, fun z H'' y => ?_⟩
  obtain ⟨T, w, rfl, hT, rfl, y⟩ := y
  have := y vs h'
  rw [e1] at this
  cases this
  refine ⟨.inr ⟨T, _, hT, rfl⟩, ?_⟩
  have e : (0 + i : Nat) = i := Nat.zero_add i
  rw [e]
  exact rp_tup (SqT.of upd_same) (.cons rp_int (.cons (r1.monoE (ex_new hT) nt) .nil))
theorem r_enuA {X : Cx} {fx : Fx} {W : WX} {pos : Pos} {elts : List Expr} {kk : Nat} {tpos p : Pos} {e : Expr} {e' : E} (hg : Gl X "enumerate") (hm : X.mg "enumerate" = none) (ha : PA X [e] (tEs X.K fx W (.cons e' .nil))) (hs : starEach [e] X.env = [(false, eval e X.env)]) :
    PI X (.Tuple elts kk tpos) (.Call (.Name "enumerate" p) [e] [] pos) (tI X.K fx W (.enu e')) :=
  PI.imp (pi_enumA hg hm ha hs) fun σ H Q ⟨env, A, S, hE, hS, h⟩ => by
    unfold evIt at h
    refine ⟨env, A, S, hE, hS, ?_⟩
    unfold evEs
    cases r : evE fx e' env S with
    | bad => rw [r] at h; exact h.elim
    | exc c S1 => rw [r] at h; exact h
    | ok d S1 =>
      rw [r] at h
      show Outs X.K A H S1 [d] _
      intro vs H1 A1 x1 s1 r1
      obtain ⟨v, rfl, r2⟩ := rps1 r1
      cases d <;> first | exact False.elim h | skip
      · have h := RPi.mono (r := .ok _ S1) h x1
        obtain ⟨a, us, rfl, q, r⟩ := r2.tup
        exact ⟨a, us, rfl, .inr ⟨q, RPi.here h s1 (yl_enumT s1 q r)⟩⟩
      · have h := RPi.mono (r := .ok _ S1) h x1
        obtain ⟨a, us, rfl, q, n, r⟩ := r2.lst
        exact ⟨a, us, rfl, .inl ⟨SqL.of q, RPi.here h s1 (yl_enum s1 q n r)⟩⟩
end Rs
end

section
set_option Elab.async false
set_option linter.all false
set_option maxRecDepth 100000
set_option maxHeartbeats 1000000
set_option autoImplicit false
/-! RsComp2: list comprehensions of any number of clauses. Own work over HandS. -/
namespace Rs
open PySem PySem.Spec PyProof.Rows L2

/-- what a turn does behind its tests: the next clause, or the item -/
def stepAt (elt : Expr) (gens : List Comprehension) (scope : Scope) (pos : Pos) (n : Nat) (acc : Value) (env : Env) (kk : Sem Fin) : Sem Fin :=
  match gens[n]? with
  | some g => do
    let x ← eval g.iter env
    standAt g.iter.pos
    let x ← if g.is_async != 0 then foldedIterable g.iter x else foldedSetIterable g.iter env x
    let _ ← runOwn (.compStart (.ListComp elt gens scope pos) n (← holding [x] (if g.is_async != 0 then asyncIter x else pyIter x)) acc env) env
    kk
  | none => do
    (do let _ ← call (.builtin "list.append") [acc, ← eval elt env])
    kk
theorem compTurn_at {elt : Expr} {gens : List Comprehension} {scope : Scope} {pos : Pos} {k : Nat} {t i : Expr} {ifs : List Expr} (h : gens[k]? = some ⟨t, i, ifs, 0⟩) (it acc : Value) (env : Env) :
    compTurn (.ListComp elt gens scope pos) k it acc env = (do
      standAt i.pos
      match ← pyNext it with
      | none => pure (.done .next)
      | some v =>
        letOwnedTupleGo t it v
        assign t env v
        let mut ok := true
        for c in ifs do
          if ok then ok ← isTrue c env (eval c env)
        if ok then
          stepAt elt gens scope pos (k + 1) acc env (again (.compLoop (.ListComp elt gens scope pos) k it acc env))
        else again (.compLoop (.ListComp elt gens scope pos) k it acc env)) := by
  unfold compTurn stepAt
  cases e : gens[k + 1]? with
  | none => simp only [h, e]; rfl
  | some g => simp only [h, e]; rfl

/-- in a block no exception leaves -/
def W0 : WX := fun _ _ _ _ => False
def bodyOf (fx : Fx) (t : Tg) (c : Es) (f : Nv → Store → R (List D)) (base : Nv) : D → Store → R (List D) := fun d S =>
  (bindT fx t d base S).bind fun env1 S => (evTs fx c env1 S).bind fun b S => match b with
    | true => f env1 S
    | false => .ok [] S
theorem body_inv {fx : Fx} {t : Tg} {c : Es} {f : Nv → Store → R (List D)} {base : Nv} {d : D} {S S1 : Store} {xs : List D} (h : bodyOf fx t c f base d S = .ok xs S1) :
    ∃ env1 Sa b Sb, bindT fx t d base S = .ok env1 Sa ∧ evTs fx c env1 Sa = .ok b Sb ∧ ((b = true ∧ f env1 Sb = .ok xs S1) ∨ (b = false ∧ xs = [] ∧ S1 = Sb)) := by
  unfold bodyOf at h
  cases e1 : bindT fx t d base S with
  | bad => rw [e1] at h; cases h
  | exc c S1 => rw [e1] at h; cases h
  | ok env1 Sa =>
    rw [e1] at h
    have h : ((evTs fx c env1 Sa).bind fun b S => match b with
      | true => f env1 S
      | false => .ok [] S) = R.ok xs S1 := h
    cases e2 : evTs fx c env1 Sa with
    | bad => rw [e2] at h; cases h
    | exc c S1 => rw [e2] at h; cases h
    | ok b Sb =>
      rw [e2] at h
      refine ⟨env1, Sa, b, Sb, rfl, e2, ?_⟩
      cases b with
      | true => exact .inl ⟨rfl, h⟩
      | false => cases h; exact .inr ⟨rfl, rfl, rfl⟩
theorem comp_inv {f : D → Store → R (List D)} {d : D} {ds : List D} {S S2 : Store} {zs : List D} (h : compL f (d :: ds) S = .ok zs S2) : ∃ xs S1 ys, f d S = .ok xs S1 ∧ compL f ds S1 = .ok ys S2 ∧ zs = xs ++ ys := by
  unfold compL at h
  cases e1 : f d S with
  | bad => rw [e1] at h; cases h
  | exc c S1 => rw [e1] at h; cases h
  | ok xs S1 =>
    rw [e1] at h
    have h : (match compL f ds S1 with
      | .ok ys S2 => R.ok (xs ++ ys) S2
      | _ => .bad) = R.ok zs S2 := h
    cases e2 : compL f ds S1 with
    | bad => rw [e2] at h; cases h
    | exc c S1 => rw [e2] at h; cases h
    | ok ys S3 =>
      rw [e2] at h
      cases h
      exact ⟨xs, S1, ys, rfl, e2, rfl⟩

section
variable {B : Cx} {fx : Fx} {Dl : Addr} {elt : Expr} {gens : List Comprehension} {scope : Scope} {pos : Pos}
/-- what stands behind a part of the making -/
def Made (B : Cx) (Dl : Addr) (pins : List (Addr × Obj)) (σ : L2.St) (H : Hp) (A : Ads) (acc : List V) (ys : List D) (S' : Store) (vs : List Nat) (s' : Shared) : Prop :=
  ∃ σ' H' A' us, Inv B pins σ' H' s' ∧ ExtD Dl A H A' H' ∧ SR B.K H' A' S' ∧ H' Dl = some (.lst (acc ++ us)) ∧ Rps B.K H' A' ys us ∧ σ'.length = σ.length ∧ ∀ j, j ∉ vs → σ'[j]? = σ[j]?
/-- level n does what f says -/
def Lv (B : Cx) (Dl : Addr) (elt : Expr) (gens : List Comprehension) (scope : Scope) (pos : Pos) (n : Nat) (vs : List Nat) (f : Nv → Store → R (List D)) : Prop :=
  ∀ (pins : List (Addr × Obj)) (s : Shared) (σ : L2.St) (H : Hp) (env : Nv) (A : Ads) (S : Store) (acc : List V) (ys : List D) (S' : Store), Inv B pins σ H s → EnvR B.K H A env σ → SR B.K H A S → Dl ∈ A.o →
    H Dl = some (.lst acc) → f env S = .ok ys S' → acc.length + ys.length ≤ LIM → ∀ (kk : Sem Fin) (Q : Fin → Shared → Prop), (∀ s', Made B Dl pins σ H A acc ys S' vs s' → wpAny (model B.prog B.w) B.A kk Q (fun _ _ => False) s') →
    wpAny (model B.prog B.w) B.A (stepAt elt gens scope pos n (.ref Dl) B.env kk) Q (fun _ _ => False) s
theorem lim_lt {a b : Nat} (h : a + b ≤ LIM) (hb : 0 < b) : a < sizeLine := by
  have : LIM = 100000 := rfl
  rw [this] at h
  rw [sizeLine_eq]
  omega
theorem lv_emit {n : Nat} {elt' : E} (hn : gens[n]? = none) (hx : B.xe = fun _ _ => False) (he : PE B elt (tE B.K fx W0 elt')) :
    Lv B Dl elt gens scope pos n [] (fun e S => (evE fx elt' e S).bind fun x S => .ok [x] S) := by
  intro pins s σ H env A S acc ys S' I hE hS hD hl hf hz kk Q hk
  replace hf : ((evE fx elt' env S).bind fun x S => .ok [x] S) = .ok ys S' := hf
  unfold stepAt
  rw [hn]
  cases r : evE fx elt' env S with
  | bad => rw [r] at hf; cases hf
  | exc c S1 => rw [r] at hf; cases hf
  | ok d S1 =>
    rw [r] at hf
    cases hf
    have run := he.run pins s σ H (fun v H1 => ∃ A1, Ext A H A1 H1 ∧ SR B.K H1 A1 S' ∧ Rp B.K H1 A1 d v) I ⟨env, A, S, hE, hS, by
      rw [r]
      exact fun v H1 A1 x s1 r1 => ⟨A1, x, s1, r1⟩⟩
    rw [hx] at run
    refine wpAny_bind (wpAny_bind (thnF run fun u s1 ⟨v, H1, I1, rv, A1, x1, s1', r1⟩ => ?_))
    have hD1 : Dl ∈ A1.o := by rw [x1.own]; exact hD
    have hl1 : H1 Dl = some (.lst acc) := by rw [x1.ow Dl hD]; exact hl
    refine wpAny_bind (app_ok (X := B) I1 hl1 (lim_lt hz (by simp)) rv fun s2 I2 => wpAny_pure (hk s2 ?_))
    exact ⟨σ, _, A1, [v], I2, (x1.toD Dl).trans (exD_upd hD1), s1'.upO hD1, upd_same, .cons (r1.monoE (exD_upd hD1).toEx s1'.noTup) .nil, rfl, fun _ _ => rfl⟩
theorem envR_agree {K : PySem.W.Frag} {H : Hp} {A : Ads} {env : Nv} {σ σ' : L2.St} {vs : List Nat} (h : EnvR K H A env σ) (hl : σ'.length = σ.length) (hk : ∀ j, j ∉ vs → σ'[j]? = σ[j]?) (hn : ∀ j, j ∈ vs → ∀ d, env[j]? ≠ some (some d)) : EnvR K H A env σ' :=
  ⟨by rw [hl]; exact h.1, fun i d e => by
    have : i ∉ vs := fun z => hn i z d e
    obtain ⟨v, e1, r⟩ := h.2 i d e
    exact ⟨v, by rw [hk i this]; exact e1, r⟩⟩
/-- a clause's loop -/
theorem loop_ok {k : Nat} {t i : Expr} {ifs : List Expr} {t' : Tg} {c' : Es} {vs' : List Nat} {f' : Nv → Store → R (List D)} (hk : gens[k]? = some ⟨t, i, ifs, 0⟩) (hx : B.xe = fun _ _ => False) (hc : B.calm = true)
    (hg : PG B t (tG B.K fx W0 t')) (ht : PTs B ifs (tTs B.K fx W0 c')) (hL : Lv B Dl elt gens scope pos (k + 1) vs' f')
    (pins : List (Addr × Obj)) (s : Shared) (σ : L2.St) (H : Hp) (env : Nv) (A : Ads) (S : Store) (items : List D) (acc : List V) (ys : List D) (S' : Store) (J : L2.It) (it : Addr) (fp : List Addr) (tn : Nat → Heap → Prop)
    (I : Inv B pins σ H s) (hE : EnvR B.K H A env σ) (hw : ∀ j, j ∈ slT t' ++ vs' → ∀ d, env[j]? ≠ some (some d)) (hS : SR B.K H A S) (hD : Dl ∈ A.o) (hl : H Dl = some (.lst acc)) (hy : Yl B.K A H items J)
    (T : Turn B.prog B.w B.K t J fp it tn) (st : tn 0 s.heap) (hf : ∀ b ∈ fp, FpOk B pins H b) (hcomp : compL (bodyOf fx t' c' f' env) items S = .ok ys S') (hz : acc.length + ys.length ≤ LIM) :
    codeAny (model B.prog B.w) B.A (.compLoop (.ListComp elt gens scope pos) k (.ref it) (.ref Dl) B.env) (fun r s' => r = .ok .next ∧ Made B Dl pins σ H A acc ys S' (slT t' ++ vs') s') s := by
  have stat : ∀ {H' : Hp}, (∀ b ∈ fp, H' b = none) → ∀ b ∈ fp, FpOk B pins H' b := fun hn b hb => ⟨hn b hb, (hf b hb).2⟩
  refine codeAny_loop rfl (fun n s' => ∃ (j : Nat) (σi : L2.St) (Hi : Hp) (Ai : Ads) (Si : Store) (us : List V) (ys1 ys2 : List D), n = items.length - j ∧ j ≤ items.length ∧ Inv B pins σi Hi s' ∧ ExtD Dl A H Ai Hi ∧ SR B.K Hi Ai Si ∧ Hi Dl = some (.lst (acc ++ us)) ∧
    Rps B.K Hi Ai ys1 us ∧ σi.length = σ.length ∧ (∀ j, j ∉ slT t' ++ vs' → σi[j]? = σ[j]?) ∧ tn j s'.heap ∧ (∀ b ∈ fp, Hi b = none) ∧ compL (bodyOf fx t' c' f' env) (items.drop j) Si = .ok ys2 S' ∧ ys = ys1 ++ ys2) ?_ items.length
    ⟨0, σ, H, A, S, [], [], ys, rfl, Nat.zero_le _, I, ExtD.refl Dl A H, hS, by rw [List.append_nil]; exact hl, .nil, rfl, fun _ _ => rfl, st, fun b hb => (hf b hb).1, hcomp, rfl⟩
  rintro n s1 ⟨j, σi, Hi, Ai, Si, us, ys1, ys2, hn, hj, I1, x1, sr1, hl1, r1, len1, ag1, st1, fr1, hc1, hys⟩
  show wpAny _ B.A ((compTurn (.ListComp elt gens scope pos) k (.ref it) (.ref Dl) B.env).onRaise (fun x => do noteFrame x B.env; theTreesLotGoes x)) _ _ s1
  refine wpAny_noted ?_
  rw [compTurn_at hk]
  refine wpAny_bind (wpAny_standAt (wpAny_bind ?_))
  have y1 := hy Ai Hi x1.toEx sr1.noTup
  by_cases hlt : j < items.length
  · -- a turn
    have hdrop : items.drop j = items[j] :: items.drop (j + 1) := List.drop_eq_getElem_cons hlt
    rw [hdrop] at hc1
    obtain ⟨xs, Sx, ys3, hb, hc2, hys2⟩ := comp_inv hc1
    obtain ⟨env1, Sa, b, Sb, e1, e2, e3⟩ := body_inv hb
    obtain ⟨go, yld⟩ := y1.1 j items[j] (List.getElem?_eq_getElem hlt)
    refine thnF (T.item B rfl rfl rfl hc j pins s1 σi Hi (fun _ _ => False) I1 (stat fr1) st1 go) fun r s2 ⟨u, hr, h2⟩ => ?_
    subst hr
    refine wpAny_bind (thnF h2 fun _ s3 ⟨x, H3, I3, r3, y3, st3, n3⟩ => ?_)
    obtain ⟨hH3, rd3⟩ := yld x H3 y3
    have x3 : Ext Ai Hi Ai H3 ∧ SR B.K H3 Ai Si ∧ H3 Dl = Hi Dl := by
      rcases hH3 with rfl | ⟨T', o, hT, rfl⟩
      · exact ⟨Ext.refl _ _, sr1, rfl⟩
      · exact ⟨sr1.extNew hT, sr1.new hT, upd_ne fun z => by rw [z, hT] at hl1; cases hl1⟩
    obtain ⟨x3, sr3, hD3⟩ := x3
    have I3' := I3.pinned (stat n3) (T.obj _ _ st3)
    have hEi : EnvR B.K H3 Ai env σi := ((envR_agree (hE.monoE x1.toEx hS.noTup) len1 ag1 hw)).mono x3 sr1.noTup
    have rg := hg.run (pins ++ pinsAt fp s3.heap) s3 σi H3 x u (fun σ' H' => ∃ A', Ext Ai H3 A' H' ∧ SR B.K H' A' Sa ∧ EnvR B.K H' A' env1 σ' ∧ σ'.length = σi.length ∧ ∀ j, j ∉ slT t' → σ'[j]? = σi[j]?) I3' r3
      ⟨env, Ai, Si, items[j], hEi, sr3, rd3, by rw [e1]; exact fun σ' H' A' y s' hE' hl' ha' => ⟨A', y, s', hE', hl', ha'⟩⟩
    rw [hx] at rg
    refine wpAny_bind (thnF rg fun _ s4 ⟨σ4, H4, I4, A4, x4, sr4, hE4, len4, ag4⟩ => ?_)
    have rt := ht.run (pins ++ pinsAt fp s3.heap) s4 σ4 H4 (fun b' H' => b' = b ∧ ∃ A', Ext A4 H4 A' H' ∧ SR B.K H' A' Sb) I4 ⟨env1, A4, Sa, hE4, sr4, by rw [e2]; exact fun A' H' y s' => ⟨rfl, A', y, s'⟩⟩
    rw [hx] at rt
    refine wpAny_bind (thnF rt fun b' s5 ⟨H5, I5, hb', A5, x5, sr5⟩ => ?_)
    subst hb'
    have xA : ExtD Dl A H A5 H5 := ((x1.trans (x3.toD Dl)).trans (x4.toD Dl)).trans (x5.toD Dl)
    have hD1 : Dl ∈ Ai.o := by rw [x1.own]; exact hD
    have hD4 : Dl ∈ A4.o := by rw [x4.own]; exact hD1
    have hD5 : Dl ∈ A5.o := by rw [x5.own]; exact hD4
    have hl5 : H5 Dl = some (.lst (acc ++ us)) := by rw [x5.ow Dl hD4, x4.ow Dl hD1, hD3]; exact hl1
    have r5 : Rps B.K H5 A5 ys1 us := ((r1.mono x3 sr1.noTup).mono x4 sr3.noTup).mono x5 sr4.noTup
    have lenus : us.length = ys1.length := r1.length.symm
    have ag5 : ∀ j, j ∉ slT t' ++ vs' → σ4[j]? = σ[j]? := fun j hj => by
      rw [ag4 j fun z => hj (List.mem_append_left _ z), ag1 j hj]
    -- the turn's end
    have fin : ∀ {s' : Shared} {σ' : L2.St} {H' : Hp} {A' : Ads} {us2 : List V}, Inv B (pins ++ pinsAt fp s3.heap) σ' H' s' → ExtD Dl A H A' H' → SR B.K H' A' Sx → H' Dl = some (.lst (acc ++ (us ++ us2))) → Rps B.K H' A' (ys1 ++ xs) (us ++ us2) →
        σ'.length = σ.length → (∀ j, j ∉ slT t' ++ vs' → σ'[j]? = σ[j]?) → ∃ m, m < n ∧ ∃ (j : Nat) (σi : L2.St) (Hi : Hp) (Ai : Ads) (Si : Store) (us : List V) (ys1 ys2 : List D), m = items.length - j ∧ j ≤ items.length ∧ Inv B pins σi Hi s' ∧ ExtD Dl A H Ai Hi ∧ SR B.K Hi Ai Si ∧ Hi Dl = some (.lst (acc ++ us)) ∧
          Rps B.K Hi Ai ys1 us ∧ σi.length = σ.length ∧ (∀ j, j ∉ slT t' ++ vs' → σi[j]? = σ[j]?) ∧ tn j s'.heap ∧ (∀ b ∈ fp, Hi b = none) ∧ compL (bodyOf fx t' c' f' env) (items.drop j) Si = .ok ys2 S' ∧ ys = ys1 ++ ys2 := by
      intro s' σ' H' A' us2 I' x' sr' hl' r' len' ag'
      have pin' : ∀ b ∈ fp, ∀ o, s3.heap.get? b = some o → s'.heap.get? b = some o ∧ H' b = none := fun b hb o e =>
        let z := I'.pin (b, o) (List.mem_append_right _ (List.mem_append_right _ (mem_pinsAt hb e)))
        ⟨z.1, z.2.1⟩
      refine ⟨items.length - (j + 1), by omega, j + 1, σ', H', A', Sx, us ++ us2, ys1 ++ xs, ys3, rfl, hlt, I'.unpinned, x', sr', hl', r', len', ag', T.keep _ _ _ st3 fun b hb o e => (pin' b hb o e).1, fun b hb => ?_, hc2, ?_⟩
      · obtain ⟨o, e, _⟩ := T.obj _ _ st3 b hb
        exact (pin' b hb o e).2
      · rw [hys, hys2, List.append_assoc]
    rcases e3 with ⟨hb, e3⟩ | ⟨hb, hxs, hSx⟩
    · subst hb
      have hz' : (acc ++ us).length + xs.length ≤ LIM := by
        rw [hys, hys2] at hz
        simp only [List.length_append] at hz ⊢
        omega
      show wpAny (model B.prog B.w) B.A (stepAt elt gens scope pos (k + 1) (.ref Dl) B.env (again (.compLoop (.ListComp elt gens scope pos) k (.ref it) (.ref Dl) B.env))) _ _ s5
      refine thnF (hL _ s5 σ4 H5 env1 A5 Sb (acc ++ us) xs Sx I5 (hE4.mono x5 sr4.noTup) sr5 hD5 hl5 e3 hz' _ _ fun s6 ⟨σ6, H6, A6, us2, I6, x6, sr6, hl6, r6, len6, ag6⟩ => ?_) fun _ _ h => h
      refine wpAny_pure ⟨rfl, fin (us2 := us2) I6 (xA.trans x6) sr6 (by rw [← List.append_assoc]; exact hl6) ((r5.monoE x6.toEx sr5.noTup).append r6) (len6.trans (len4.trans len1)) fun j hj => ?_⟩
      rw [ag6 j fun z => hj (List.mem_append_right _ z), ag5 j hj]
    · subst hb hxs hSx
      show wpAny (model B.prog B.w) B.A (again (.compLoop (.ListComp elt gens scope pos) k (.ref it) (.ref Dl) B.env)) _ _ s5
      refine wpAny_pure ⟨rfl, fin (us2 := []) I5 xA sr5 (by rw [List.append_nil]; exact hl5) (by rw [List.append_nil, List.append_nil]; exact r5) (len4.trans len1) ag5⟩
  · -- the end
    have hje : j = items.length := by omega
    subst hje
    rw [List.drop_length] at hc1
    unfold compL at hc1
    cases hc1
    refine thnF (T.done B rfl rfl rfl hc _ pins s1 σi Hi (fun _ _ => False) I1 (stat fr1) st1 (y1.2 _ (Nat.le_refl _) (Nat.le_refl _))) fun r s2 ⟨hr, I2⟩ => ?_
    subst hr
    refine wpAny_pure ⟨rfl, σi, Hi, Ai, us, I2, x1, sr1, hl1, ?_, len1, ag1⟩
    rw [hys, List.append_nil]
    exact r1
theorem wipeE_some {env : Nv} {i : Nat} {d : D} : ∀ {vs : List Nat}, (wipeE env vs)[i]? = some (some d) → env[i]? = some (some d) ∧ i ∉ vs
  | [], h => ⟨h, by simp⟩
  | v :: vs, h => by
    unfold wipeE at h
    by_cases hi : v = i
    · subst hi
      rw [List.getElem?_set] at h
      simp only [if_true] at h
      split at h <;> cases h
    · rw [List.getElem?_set_ne hi] at h
      obtain ⟨h1, h2⟩ := wipeE_some h
      exact ⟨h1, by simp only [List.mem_cons, not_or]; exact ⟨fun e => hi e.symm, h2⟩⟩
theorem wipeE_len (env : Nv) : ∀ vs : List Nat, (wipeE env vs).length = env.length
  | [] => rfl
  | v :: vs => by unfold wipeE; rw [List.length_set, wipeE_len env vs]
/-- a clause's start -/
theorem start_ok {k : Nat} {t i : Expr} {ifs : List Expr} {it acc : Value} {env : Env} {s : Shared} {R : PySem.Result → Shared → Prop} {P : Program} {w : World} {A : Around} (hk : gens[k]? = some ⟨t, i, ifs, 0⟩)
    (h0 : codeAny (model P w) A (.compLoop (.ListComp elt gens scope pos) k it acc env) R s)
    (h : wpAny (model P w) A (pyIter it) (fun it' s' => codeAny (model P w) A (.compLoop (.ListComp elt gens scope pos) k it' acc env) R s') (notedBy (model P w) A env fun x s' => R (.error x) s') s) :
    codeAny (model P w) A (.compStart (.ListComp elt gens scope pos) k it acc env) R s := by
  have hk' : (clausesOf (.ListComp elt gens scope pos))[k]? = some ⟨t, i, ifs, 0⟩ := hk
  refine codeAny_of_tree ?_
  show wpAny _ _ ((compStart (.ListComp elt gens scope pos) k it acc env).onRaise (fun x => do noteFrame x env; standAt theWindowsPlace)) _ _ s
  refine wpAny_notedAt ?_
  unfold compStart
  rw [hk']
  show wpAny _ _ (ask >>= _) _ _ s
  refine wpAny_bind (wpAny_askSetting (wpAny_ite ?_))
  split
  · first
      | exact wpAny_bind (wpAny_pure (wpAny_pure ⟨rfl, h0⟩))
      | exact wpAny_pure ⟨rfl, h0⟩
  · refine wpAny_bind (wpAny_rule ?_)
    first
      | exact wpAny_bind (wpAny_standAt (wpAny_bind (wpAny_mono h (fun it' s' h' => wpAny_pure ⟨rfl, h'⟩) fun _ _ x => x)))
      | (show wpAny _ _ (standAt i.pos >>= _) _ _ s; exact wpAny_bind (wpAny_standAt (wpAny_bind (wpAny_mono h (fun it' s' h' => wpAny_pure ⟨rfl, h'⟩) fun _ _ x => x))))
/-- a clause, from the walk on -/
theorem lv_mid {k : Nat} {t i : Expr} {ifs : List Expr} {t' : Tg} {it' : Rs.It} {c' : Es} {g' : Gs} {f' : Nv → Store → R (List D)} (hk : gens[k]? = some ⟨t, i, ifs, 0⟩) (hx : B.xe = fun _ _ => False) (hc : B.calm = true)
    (hi : PI B t i (tI B.K fx W0 it')) (hg : PG B t (tG B.K fx W0 t')) (ht : PTs B ifs (tTs B.K fx W0 c')) (hs : ∀ x, foldedSetIterable i B.env x = pure x) (hL : Lv B Dl elt gens scope pos (k + 1) (slG g') (evGs fx g' f')) :
    Lv B Dl elt gens scope pos k (slG (.cons t' it' c' g')) (evGs fx (.cons t' it' c' g') f') := by
  intro pins s σ H env A S acc ys S' I hE hS hD hl hf hz kk Q hkk
  unfold evGs at hf
  cases r : evIt fx it' env S with
  | bad => rw [r] at hf; cases hf
  | exc c S1 => rw [r] at hf; cases hf
  | ok items S1 =>
    rw [r] at hf
    replace hf : compL (bodyOf fx t' c' (evGs fx g' f') (wipeE env (slT t' ++ slG g'))) items S1 = .ok ys S' := hf
    unfold stepAt
    rw [hk]
    have run := hi.run pins s σ H (fun J H1 => ∃ A1, Ext A H A1 H1 ∧ SR B.K H1 A1 S1 ∧ Yl B.K A1 H1 items J) I ⟨env, A, S, hE, hS, by rw [r]; exact fun J H1 A1 x s1 y => ⟨A1, x, s1, y⟩⟩
    rw [hx] at run
    refine wpAny_bind (thnF run fun xv s1 hx1 => wpAny_bind (wpAny_standAt ?_))
    show wpAny _ _ (foldedSetIterable i B.env xv >>= _) _ _ s1
    refine wpAny_bind (wpAny_of_eq (hs xv) (wpAny_bind (wpAny_holding (thnF hx1 fun itv s2 h2 => ?_))))
    obtain ⟨it, fp, tn, J, H2, e, I2, T, st2, f2, A2, x2, sr2, y2⟩ := h2
    subst e
    have hE2 : EnvR B.K H2 A2 (wipeE env (slT t' ++ slG g')) σ := (hE.mono x2 hS.noTup).less (wipeE_len _ _) fun i d q => (wipeE_some q).1
    have loop := loop_ok (f' := evGs fx g' f') hk hx hc hg ht hL pins s2 σ H2 (wipeE env (slT t' ++ slG g')) A2 S1 items acc ys S' J it fp tn I2 hE2 (fun j hj d q => (wipeE_some q).2 hj) sr2 (by rw [x2.own]; exact hD) (by rw [x2.ow Dl hD]; exact hl) y2 T st2 f2 hf hz
    refine wpAny_bind (wpAny_runOwn ?_)
    rw [Around.mark_none]
    refine codeAny_mono (start_ok hk loop (T.self B.A 0 _ _ _ st2 loop)) fun r s' hr => ?_
    obtain ⟨rfl, σ', H', A', us, I', x', sr', hl', r', len', ag'⟩ := hr
    first
      | exact hkk s' ⟨σ', H', A', us, I', (x2.toD Dl).trans x', sr', hl', r', len', ag'⟩
      | exact wpAny_pure (hkk s' ⟨σ', H', A', us, I', (x2.toD Dl).trans x', sr', hl', r', len', ag'⟩)
      | exact wpAny_bind (wpAny_pure (hkk s' ⟨σ', H', A', us, I', (x2.toD Dl).trans x', sr', hl', r', len', ag'⟩))
/-- no further clause -/
theorem lv_last {k : Nat} {elt' : E} (hn : gens[k]? = none) (hx : B.xe = fun _ _ => False) (he : PE B elt (tE B.K fx W0 elt')) : Lv B Dl elt gens scope pos k (slG .nil) (evGs fx .nil (fun e S => (evE fx elt' e S).bind fun x S => .ok [x] S)) := by
  intro pins s σ H env A S acc ys S' I hE hS hD hl hf hz kk Q hkk
  unfold evGs at hf
  exact lv_emit hn hx he pins s σ H env A S acc ys S' I hE hS hD hl hf hz kk Q hkk
end

/-! ### a list that is new -/
/-- the list p is not there yet -/
def rmv (H : Hp) (p : Addr) : Hp := fun b => if b = p then none else H b
theorem rmv_ne {H : Hp} {p a : Addr} (h : a ≠ p) : rmv H p a = H a := if_neg h
theorem rmv_same {H : Hp} {p : Addr} : rmv H p p = none := if_pos rfl
theorem upd_rmv {H : Hp} {p : Addr} {o : HO} (h : H p = some o) : upd (rmv H p) p o = H := by
  funext b
  by_cases e : b = p
  · subst e; rw [upd_same, h]
  · rw [upd_ne e, rmv_ne e]
section
variable {K : PySem.W.Frag} {A A1 : Ads} {H H1 : Hp} {S S1 : Store} {p : Addr} {vs : List V}
theorem ex_pop {vs1 : List V} (s1 : SR K H1 A1 S1) (ho : p ∈ A1.o) : Ex A1 H1 A1.pop (rmv H1 p) where
  rd := fun a u n r => by
    have ne : a ≠ p := fun z => n (.inr (by rw [z]; exact ho))
    rcases r with r | ⟨o', r⟩
    · exact .inl (by rw [rmv_ne ne]; exact r)
    · exact .inr ⟨o', by rw [rmv_ne ne]; exact r⟩
  ls := fun a u n r => by
    have ne : a ≠ p := fun z => n (.inr (by rw [z]; exact ho))
    rw [rmv_ne ne]; exact r
  pre := fun _ _ b h => ⟨b, h⟩
  new := fun a h => by
    rcases h with h | h
    · exact .inl (.inl h)
    · exact .inl (.inr (List.mem_of_mem_tail h))
theorem made_out {us : List V} {ys : List D} (s0 : SR K H A S) (hp : H p = none) (x : ExtD p (A.push p) (upd H p (.lst vs)) A1 H1) (s1 : SR K H1 A1 S1) (r : Rps K H1 A1 ys us) :
    Ext A H A1.pop (rmv H1 p) ∧ SR K (rmv H1 p) A1.pop S1 ∧ Rps K (rmv H1 p) A1.pop ys us := by
  have ho : A1.o = p :: A.o := x.own
  have hp1 : p ∈ A1.o := by rw [ho]; exact List.mem_cons_self
  have e := ex_pop (vs1 := []) s1 hp1
  have pA : p ∉ A.o := fun z => s0.live (.inr z) hp
  have htl : A1.pop.o = A.o := by show A1.o.tail = _; rw [ho]; rfl
  refine ⟨⟨⟨fun a u n r => ?_, fun a u n r => ?_, fun k a b h => x.pre k a b h, fun a h => ?_⟩, htl, fun a h => ?_⟩, ⟨s1.len, s1.one, fun k c a b e1 e2 => ?_, fun a ha => ?_⟩, r.monoE e s1.noTup⟩
  · have ne : a ≠ p := fun z => rd_ne r (by rw [z]; exact hp)
    have r' : Rd H1 a u := x.rd a u (fun z => (live_push.mp z).elim n ne) (by
      rcases r with r | ⟨o', r⟩
      · exact .inl (by rw [upd_ne ne]; exact r)
      · exact .inr ⟨o', by rw [upd_ne ne]; exact r⟩)
    rcases r' with r | ⟨o', r⟩
    · exact .inl (by rw [rmv_ne ne]; exact r)
    · exact .inr ⟨o', by rw [rmv_ne ne]; exact r⟩
  · have ne : a ≠ p := fun z => by rw [z, hp] at r; cases r
    rw [rmv_ne ne]
    exact x.ls a u (fun z => (live_push.mp z).elim n ne) (by rw [upd_ne ne]; exact r)
  · by_cases ne : a = p
    · exact .inr (by rw [ne]; exact hp)
    · have h1 : A1.live a := by
        rcases h with h | h
        · exact .inl h
        · exact .inr (List.mem_of_mem_tail h)
      rcases x.new a h1 with q | q
      · exact (live_push.mp q).elim .inl fun z => absurd z ne
      · rw [upd_ne ne] at q
        exact .inr q
  · have ne : a ≠ p := fun z => pA (by rw [← z]; exact h)
    rw [rmv_ne ne, x.ow a (List.mem_cons_of_mem _ h) ne, upd_ne ne]
  · obtain ⟨h1, h2⟩ := s1.at_ k c a b e1 e2
    refine ⟨h1, ?_⟩
    cases hd : isDead c with
    | true => cases c <;> first | trivial | cases hd
    | false =>
      rw [hd] at h1
      subst h1
      have ne : a ≠ p := fun z => (s1.mak p hp1).2 (by rw [← z]; exact List.mem_of_getElem? e2)
      exact h2.monoE e s1.noTup (rmv_ne ne)
  · rw [htl] at ha
    have ne : a ≠ p := fun z => pA (by rw [← z]; exact ha)
    rw [rmv_ne ne]
    exact s1.mak a (by rw [ho]; exact List.mem_cons_of_mem _ ha)
end
/-- a new list comes -/
def RF (K : PySem.W.Frag) (W : WX) (σ : L2.St) (A : Ads) (H : Hp) (r : R D) (Q : VK) : Prop :=
  match r with
  | .ok (.lst ds) S => ∀ H' A' vs p, Ext A H A' H' → SR K H' A' S → Rps K H' A' ds vs → H' p = none → Q (.ref p) (upd H' p (.lst vs))
  | .ok _ _ => False
  | .exc c S => Exo K W σ A H c S
  | .bad => False
def tFr (K : PySem.W.Frag) (fx : Fx) (W : WX) (e : E) : TE := fun σ H Q => ∃ env A S, EnvR K H A env σ ∧ SR K H A S ∧ RF K W σ A H (evE fx e env S) Q
end Rs
end

section
set_option Elab.async false
set_option linter.all false
set_option maxRecDepth 100000
set_option maxHeartbeats 1000000
set_option autoImplicit false
/-! RsLc: the list comprehension as an expression and stored in a name. Own work over HandS. -/
namespace Rs
open PySem PySem.Spec PyProof.Rows L2
section
variable {X : Cx} {fx : Fx} {W : WX} {elt tg iter : Expr} {ifs : List Expr} {gs : List Comprehension} {scope : Scope} {own : List (Str × Nat)} {pos pos' : Pos} {t' : Tg} {it' : Rs.It} {c' : Es} {g' : Gs} {elt' : E}
abbrev allG (tg iter : Expr) (ifs : List Expr) (gs : List Comprehension) : List Comprehension := ⟨tg, iter, ifs, 0⟩ :: gs
/-- what the block's parts are to do, wherever the block starts -/
def BlkR (X : Cx) (fx : Fx) (elt tg iter : Expr) (ifs : List Expr) (gs : List Comprehension) (scope : Scope) (pos : Pos) (elt' : E) (t' : Tg) (c' : Es) (g' : Gs) : Prop :=
  ∀ (s : Shared) (H : Hp) (C : Addr) (cl : List (Str × Addr)) (fp : List Addr), PG (X.blk s H scope (compEnvC scope cl C X.env) fp) tg (tG X.K fx W0 t') ∧ PTs (X.blk s H scope (compEnvC scope cl C X.env) fp) ifs (tTs X.K fx W0 c') ∧
    ∀ Dl, Lv (X.blk s H scope (compEnvC scope cl C X.env) fp) Dl elt (allG tg iter ifs gs) scope pos 1 (slG g') (evGs fx g' fun e S => (evE fx elt' e S).bind fun x S => .ok [x] S)
theorem lcN_core {pins : List (Addr × Obj)} {s : Shared} {σ : L2.St} {H : Hp} {Q : VK} {use : Option (Value → Sem Unit)} {Qf : Value → Shared → Prop}
    (hc : X.calm = true) (hN : X.N.Nodup) (I : Inv X pins σ H s) (hi : PI X tg iter (tI X.K fx W it')) (ok : BlkOk X.N X.env.scope scope own) (hb : BlkR X fx elt tg iter ifs gs scope pos elt' t' c' g')
    (hsl : ∀ j, j ∈ slT t' ++ slG g' → j ∈ own.map (·.2)) (hs : ∀ x, foldedSetIterable iter X.env x = pure x) (h : tFr X.K fx W (.lc (own.map (·.2)) elt' t' it' c' g') σ H Q)
    (fin : ∀ D C s' m H', Inv X pins σ H' s' → Q (.ref D) H' → s'.heap.Ns C m → FpOk X pins H' C → compPost (model X.prog X.w) X.A X.xe use Qf (.ref D) C (.ok .next) s') :
    wpAny (model X.prog X.w) X.A (comprehension (.ListComp elt (allG tg iter ifs gs) scope pos) scope X.env pos' (newList []) false (eval iter X.env) use) Qf X.xe s := by
  obtain ⟨env, A, S, hE, hS, h⟩ := h
  unfold evE at h
  have hi0 : tI X.K fx W it' σ H fun J H1 => ∃ A1 S1 S2 items ys, Ext A H A1 H1 ∧ SR X.K H1 A1 S1 ∧ Yl X.K A1 H1 items J ∧ compL (bodyOf fx t' c' (evGs fx g' fun e S => (evE fx elt' e S).bind fun x S => .ok [x] S) (wipeE env (own.map (·.2)))) items S1 = .ok ys S2 ∧ ys.length ≤ LIM ∧ RF X.K W σ A H (.ok (.lst ys) S2) Q := by
    refine ⟨env, A, S, hE, hS, ?_⟩
    cases r : evIt fx it' env S with
    | bad => rw [r] at h; exact h.elim
    | exc c S1 => rw [r] at h; exact h
    | ok items S1 =>
      rw [r] at h
      intro J H1 A1 x1 s1 y1
      have h : RF X.K W σ A H (match compL (bodyOf fx t' c' (evGs fx g' fun e S => (evE fx elt' e S).bind fun x S => .ok [x] S) (wipeE env (own.map (·.2)))) items S1 with
        | .ok ds S => if ds.length ≤ LIM then .ok (.lst ds) S else .bad
        | _ => .bad) Q := h
      cases r2 : compL (bodyOf fx t' c' (evGs fx g' fun e S => (evE fx elt' e S).bind fun x S => .ok [x] S) (wipeE env (own.map (·.2)))) items S1 with
      | bad => rw [r2] at h; exact h.elim
      | exc c S1 => rw [r2] at h; exact h.elim
      | ok ys S2 =>
        rw [r2] at h
        have h : RF X.K W σ A H (if ys.length ≤ LIM then .ok (.lst ys) S2 else .bad) Q := h
        split at h
        · rename_i hz
          exact ⟨A1, S1, S2, items, ys, x1, s1, y1, r2, hz, h⟩
        · exact h.elim
  have hfree : ∀ y ∈ scope.names, y.2 = .free → ∃ c, X.env.cells.lookup y.1 = some c := fun y hy e => (ok.free y hy e).elim (fun k => I.ok.has _ (.inl k)) fun k => I.ok.has _ (.inr k)
  refine wpAny_comprehension_free (gs := gs) (use := use) rfl hs (closure_ok hfree) ok.kind (fun y hy e => by rw [ok.uniq y hy, e]) (thn (hi.run pins s σ H _ I hi0) fun xv s1 hx => thn hx fun itv s2 h2 => ?_)
  obtain ⟨it, fp, tn, J, H2, e, I2, T, st2, f2, A1, S1, S2, items, ys, x1, sr1, y1, hcomp, hz, hq⟩ := h2
  subst e
  refine wpAny_newObj_type (newEnv_comp ?_) (by show 0 ≤ sizeLine; decide)
  generalize hD : s2.heap.objs.size = D
  have hDn : H2 D = none := I2.hok.fresh (Nat.le_of_eq hD)
  -- the list that is being made
  generalize hs3 : ({ s2 with heap := s2.heap.push { cls := .type "list", data := .seq ([] : List Value).toArray } } : Shared) = s3
  have h3 : s3.heap = s2.heap.push { cls := .type "list", data := .seq ([] : List Value).toArray } := by rw [← hs3]
  have at3 : s3.heap.get? D = some { cls := .type "list", data := .seq ([] : List Value).toArray } := by rw [h3, ← hD]; exact Heap.get?_push_size _ rfl
  have I3 : Inv X pins σ (upd H2 D (.lst [])) s3 := by
    have := I2.laid (t' := s2.toks) (a := D) (o := .lst []) (h' := s3.heap) (fun b o e => by rw [h3]; exact Heap.get?_push_of_some _ e) (Nat.le_of_eq hD) ⟨Nat.zero_le _, [], 0, .nil, at3⟩
    rw [← hs3] at this ⊢
    exact this
  have f3 : ∀ b ∈ fp, FpOk X pins (upd H2 D (.lst [])) b ∧ b < s3.heap.objs.size := fun b hb => by
    obtain ⟨o, e, _⟩ := T.obj _ _ st2 b hb
    have hlt : b < s2.heap.objs.size := Heap.lt_size e
    have ne : b ≠ D := by rw [← hD]; exact Nat.ne_of_lt hlt
    exact ⟨⟨by rw [upd_ne ne]; exact (f2 b hb).1, (f2 b hb).2⟩, by rw [h3, Heap.size_push]; exact Nat.lt_succ_of_lt hlt⟩
  have st3 : tn 0 s3.heap := T.keep _ _ _ st2 fun b _ o e => by rw [h3]; exact Heap.get?_push_of_some _ e
  have I4 := block_start I3 ok hN f3
  obtain ⟨pg, pt, lv⟩ := hb s3 (upd H2 D (.lst [])) s3.heap.objs.size (cellsFrom (s3.heap.objs.size + 1) scope.names (cloFrom X.env.cells scope.names [])) fp
  show codeAny _ _ (.compStart (.ListComp elt (allG tg iter ifs gs) scope pos) 0 (.ref it) (.ref D) (compEnvC scope (cellsFrom (s3.heap.objs.size + 1) scope.names (cloFrom X.env.cells scope.names [])) s3.heap.objs.size X.env)) _ { s3 with heap := pushCells (s3.heap.push { cls := .type "dict", data := .dict #[] }) scope.names }
  generalize hce : compEnvC scope (cellsFrom (s3.heap.objs.size + 1) scope.names (cloFrom X.env.cells scope.names [])) s3.heap.objs.size X.env = ce at I4 pg pt lv ⊢
  have cL : ce.locals = s3.heap.objs.size := by subst hce; rfl
  generalize hs4 : ({ s3 with heap := pushCells (s3.heap.push { cls := .type "dict", data := .dict #[] }) scope.names } : Shared) = s4 at I4 ⊢
  have st4 : tn 0 s4.heap := T.keep _ _ _ st3 fun b _ o e => by rw [← hs4]; exact pushCells_keeps _ _ _ _ (Heap.get?_push_of_some _ e)
  have hE3 : EnvR X.K (upd H2 D (.lst [])) (A1.push D) (wipeE env (own.map (·.2))) (wipe σ (own.map (·.2))) := ((hE.mono x1 hS.noTup).mkO sr1 hDn).wipe _
  have y3 : Yl X.K (A1.push D) (upd H2 D (.lst [])) items J := fun A' H' x nt => y1 A' H' (by
    refine ⟨fun a u n r => ?_, fun a u n r => ?_, fun k a b h => x.pre k a b h, fun a h => ?_⟩
    · have ne : a ≠ D := fun z => rd_ne r (by rw [z]; exact hDn)
      refine x.rd a u (fun z => (live_push.mp z).elim n ne) ?_
      rcases r with r | ⟨o', r⟩
      · exact .inl (by rw [upd_ne ne]; exact r)
      · exact .inr ⟨o', by rw [upd_ne ne]; exact r⟩
    · have ne : a ≠ D := fun z => by rw [z, hDn] at r; cases r
      exact x.ls a u (fun z => (live_push.mp z).elim n ne) (by rw [upd_ne ne]; exact r)
    · by_cases ne : a = D
      · exact .inr (by rw [ne]; exact hDn)
      · rcases x.new a h with q | q
        · exact (live_push.mp q).elim .inl fun z => absurd z ne
        · rw [upd_ne ne] at q
          exact .inr q) nt
  have fB : ∀ b ∈ fp, FpOk (X.blk s3 (upd H2 D (.lst [])) scope ce fp) [] (upd H2 D (.lst [])) b := fun b hb =>
    ⟨(f3 b hb).1.1, (I4.ok.exf b hb).1, I4.ok.exfs b hb, .inl hb, fun x c e => (I4.ok.exf b hb).2 x c e, fun p hp => absurd (show p ∈ ([] : List (Addr × Obj)) ++ [] from hp) (by simp)⟩
  have loop := loop_ok (B := X.blk s3 (upd H2 D (.lst [])) scope ce fp) (Dl := D) (elt := elt) (gens := allG tg iter ifs gs) (scope := scope) (pos := pos) (k := 0) (vs' := slG g') rfl rfl hc pg pt (lv D) [] s4 (wipe σ (own.map (·.2))) (upd H2 D (.lst []))
    (wipeE env (own.map (·.2))) (A1.push D) S1 items [] ys S2 J it fp tn I4 hE3 (fun j hj d q => (wipeE_some q).2 (hsl j hj)) (sr1.mkO hDn) List.mem_cons_self upd_same y3 T st4 fB hcomp (by simpa using hz)
  refine codeAny_mono (start_ok (gens := allG tg iter ifs gs) (k := 0) rfl loop (T.self X.A 0 _ _ _ st4 loop)) fun r s' hr => ?_
  obtain ⟨rfl, σ6, H6, A6, us, I6, x6, sr6, hl6, r6, _, _⟩ := hr
  obtain ⟨x7, sr7, r7⟩ := made_out sr1 hDn x6 sr6 r6
  have I7 : Inv X pins σ H6 s' := I3.call' (ch := fp) I6.os I6.base I6.hok I6.bare fun b hb => ⟨(f3 b hb).1.2.2.2.1, (f3 b hb).1.2.1, (f3 b hb).1.2.2.2.2.1, (f3 b hb).1.2.2.2.2.2⟩
  have nC : H6 s3.heap.objs.size = none := by
    have z : H6 ce.locals = none := I6.free
    rw [cL] at z
    exact z
  obtain ⟨m, hn, _⟩ := I6.loc
  have hn : s'.heap.Ns ce.locals m := hn
  rw [cL] at hn
  refine cL ▸ fin D s3.heap.objs.size s' m H6 I7 ?_ hn (I3.fpOk (Nat.le_refl _) nC)
  have q := hq (rmv H6 D) A6.pop us D (x1.trans x7) sr7 r7 rmv_same
  rw [List.nil_append] at hl6
  rw [upd_rmv hl6] at q
  exact q
end
end Rs
end

section
set_option Elab.async false
set_option linter.all false
set_option maxRecDepth 100000
set_option maxHeartbeats 1000000
set_option autoImplicit false
/-! RsSnd3: calls, built-ins, methods, lists that change. Own work over HandS. -/
namespace Rs
open PySem PySem.Spec PyProof.Rows L2

/-! ### comprehensions; new lists, frozen or to be changed -/
section
variable {X : Cx} {fx : Fx} {W : WX} {pos : Pos}
theorem r_lcF {elt tg iter : Expr} {ifs : List Expr} {gs : List Comprehension} {scope : Scope} {own : List (Str × Nat)} {t' : Tg} {it' : Rs.It} {c' : Es} {g' : Gs} {elt' : E}
    (hc : X.calm = true) (hN : X.N.Nodup) (hi : PI X tg iter (tI X.K fx W it')) (ok : BlkOk X.N X.env.scope scope own) (hb : BlkR X fx elt tg iter ifs gs scope pos elt' t' c' g')
    (hsl : ∀ j, j ∈ slT t' ++ slG g' → j ∈ own.map (·.2)) (hs : ∀ x, foldedSetIterable iter X.env x = pure x) : PE X (.ListComp elt (allG tg iter ifs gs) scope pos) (tFr X.K fx W (.lc (own.map (·.2)) elt' t' it' c' g')) := by
  refine ⟨fun pins s σ H Q I h => ?_⟩
  rw [eval_ListComp]
  refine lcN_core hc hN I hi ok hb hsl hs h fun D C s' m H' I' q hn f => ⟨m, hn, fun h'' sb => ?_⟩
  obtain ⟨f0, f1, f2, f3, f4, f5⟩ := f
  exact ⟨.ref D, H', I'.turned (t' := s'.toks) (fun b o hb e => (sb.2 b hb).trans e) f0 f1 f3 f4 f5, rfl, q⟩
/-- what always gives a list -/
def GivesL (fx : Fx) (e : E) : Prop := ∀ env S d S', evE fx e env S = .ok d S' → ∃ ds, d = .lst ds
theorem r_fro {e : Expr} {e' : E} (h : PE X e (tFr X.K fx W e')) (hl : GivesL fx e') : PE X e (tE X.K fx W e') :=
  PE.imp h fun σ H Q ⟨env, A, S, hE, hS, q⟩ => by
    refine ⟨env, A, S, hE, hS, ?_⟩
    cases r : evE fx e' env S with
    | bad => rw [r] at q; exact q
    | exc c S1 => rw [r] at q; exact q
    | ok d S1 =>
      rw [r] at q
      obtain ⟨ds, rfl⟩ := hl _ _ _ _ r
      intro H1 A1 vs p x1 s1 r1 hp
      exact Out.lstN (Out.mono q x1) s1 r1 hp
theorem r_mut {e : Expr} {e' : E} (h : PE X e (tFr X.K fx W e')) (hl : GivesL fx e') : PE X e (tE X.K fx W (.mut e')) :=
  PE.imp h fun σ H Q ⟨env, A, S, hE, hS, q⟩ => by
    refine ⟨env, A, S, hE, hS, ?_⟩
    unfold evE at q
    cases r : evE fx e' env S with
    | bad => rw [r] at q; exact q
    | exc c S1 => rw [r] at q; exact q
    | ok d S1 =>
      rw [r] at q
      obtain ⟨ds, rfl⟩ := hl _ _ _ _ r
      intro H1 A1 vs p x1 s1 r1 hp
      have q : Out X.K A H (S1 ++ [.lst ds]) (.ref S1.length) Q := q
      have x2 : Ext A1 H1 (A1.add p) (upd H1 p (.lst vs)) := ext_cell hp (s1.notO hp)
      refine q (.ref p) (upd H1 p (.lst vs)) (A1.add p) (x1.trans x2) (s1.push hp rfl ⟨vs, upd_same, r1.mono x2 s1.noTup⟩) ?_
      unfold Rp
      refine ⟨p, true, ?_, rfl⟩
      show (A1.c ++ [(p, true)])[S1.length]? = _
      rw [← s1.len]
      simp
theorem gl_lc {own : List Nat} {elt : E} {t : Tg} {it : Rs.It} {c : Es} {g : Gs} : GivesL fx (.lc own elt t it c g) := by
  intro env S d S' h
  unfold evE at h
  cases r : evIt fx it env S with
  | bad => rw [r] at h; cases h
  | exc c S1 => rw [r] at h; cases h
  | ok items S1 =>
    rw [r] at h
    simp only [R.bind] at h
    split at h
    · split at h
      · cases h; exact ⟨_, rfl⟩
      · cases h
    · cases h
theorem gl_lst {es : Es} : GivesL fx (.lst es) := by
  intro env S d S' h
  unfold evE at h
  cases r : evEs fx es env S with
  | bad => rw [r] at h; cases h
  | exc c S1 => rw [r] at h; cases h
  | ok items S1 =>
    rw [r] at h
    simp only [R.bind] at h
    split at h
    · cases h; exact ⟨_, rfl⟩
    · cases h
theorem r_lstF {es : List Expr} {es' : Es} (h : PA X es (tEs X.K fx W es')) : PE X (.List es pos) (tFr X.K fx W (.lst es')) :=
  PE.imp (pe_lst h) fun σ H Q ⟨env, A, S, hE, hS, h⟩ => by
    unfold evE at h
    refine ⟨env, A, S, hE, hS, ?_⟩
    cases r : evEs fx es' env S with
    | bad => rw [r] at h; exact h.elim
    | exc c S1 => rw [r] at h; exact h
    | ok ds S1 =>
      rw [r] at h
      intro vs H1 A1 x1 s1 r1
      have h : RF X.K W σ A H (if ds.length ≤ LIM then .ok (.lst ds) S1 else .bad) Q := h
      split at h
      · rename_i hz
        exact ⟨by rw [← r1.length]; exact lim_size hz, fun p hp => h H1 A1 vs p x1 s1 r1 hp⟩
      · exact h.elim

/-! ### built-in functions, methods, kinds -/
theorem r_bltB {o : Blt} {id : String} {x : Str} {p : Pos} {e : Expr} {es : List Expr} {as : Es} (hc : CallR X (.builtin id) (rBl X.K fun S => bltD S o)) (hg : Gl X x) (hm : X.mg x = none) (hv : bootBuiltins x = some (.builtin id)) (ha : PA X (e :: es) (tEs X.K fx W as)) (hn : x ≠ "__name__")
    (hdb : (x == ("__debug__" : Str)) = false) (he : starEach (e :: es) X.env = (false, eval e X.env) :: starEach es X.env) (hpl : (backTo pos (starEach es X.env)).any (·.1) = false) : PE X (.Call (.Name x p) (e :: es) [] pos) (tE X.K fx W (.blt o as)) :=
  PE.imp (pe_callB hc hg hm hv ha hn hdb he hpl) fun σ H Q ⟨env, A, S, hE, hS, h⟩ => by
    unfold evE at h
    refine ⟨env, A, S, hE, hS, RPs.imp (RPs.bind h) fun vs H1 ⟨A1, S1, ds, x1, s1, r1, h1⟩ => ?_⟩
    obtain ⟨z, h3, h4⟩ := RP.of h1
    exact ⟨A1, S1, ds, z, s1, r1, h3, h4⟩
theorem r_bltT {o : Blt} {id : String} {x : Str} {p : Pos} {e : Expr} {es : List Expr} {as : Es} (hc : CallR X (.type id) (rBl X.K fun S => bltD S o)) (hg : Gl X x) (hm : X.mg x = none) (hv : bootBuiltins x = some (.type id)) (ha : PA X (e :: es) (tEs X.K fx W as)) (hn : x ≠ "__name__")
    (hdb : (x == ("__debug__" : Str)) = false) (he : starEach (e :: es) X.env = (false, eval e X.env) :: starEach es X.env) (hpl : (backTo pos (starEach es X.env)).any (·.1) = false) : PE X (.Call (.Name x p) (e :: es) [] pos) (tE X.K fx W (.blt o as)) :=
  PE.imp (pe_callTy hc hg hm hv ha hn hdb he hpl) fun σ H Q ⟨env, A, S, hE, hS, h⟩ => by
    unfold evE at h
    refine ⟨env, A, S, hE, hS, RPs.imp (RPs.bind h) fun vs H1 ⟨A1, S1, ds, x1, s1, r1, h1⟩ => ?_⟩
    obtain ⟨z, h3, h4⟩ := RP.of h1
    exact ⟨A1, S1, ds, z, s1, r1, h3, h4⟩
/-- a built-in type as an argument -/
theorem r_isi {a : Expr} {a' : E} {p p2 : Pos} {t : Ty} {x : Str} (hg : Gl X "isinstance") (hm : X.mg "isinstance" = none) (ha : PE X a (tE X.K fx W a')) (hgt : Gl X x) (hmt : X.mg x = none) (hvt : bootBuiltins x = some (.type (tyName t))) (hnt : x ≠ "__name__") (hdt : (x == ("__debug__" : Str)) = false)
    (he : starEach [a, .Name x p2] X.env = (false, eval a X.env) :: starEach [.Name x p2] X.env) (he2 : starEach [.Name x p2] X.env = (false, eval (.Name x p2) X.env) :: starEach [] X.env) (hpl : (backTo pos (starEach [.Name x p2] X.env)).any (·.1) = false) :
    PE X (.Call (.Name "isinstance" p) [a, .Name x p2] [] pos) (tE X.K fx W (.isi a' t)) :=
  PE.imp (pe_callB (call_isiD fx.sub t) hg hm PyProof.Rows.boot_isinstance (pa_cons ha (pa_cons (pe_bltn (v := .ty (tyName t)) hgt hmt hvt rfl hnt hdt) pa_nil he2) he) (by decide) (by decide) he hpl) fun σ H Q ⟨env, A, S, hE, hS, h⟩ => by
    unfold evE at h
    refine ⟨env, A, S, hE, hS, RP.imp (RP.bind h) fun v H1 ⟨A1, S1, d, x1, s1, r1, h1⟩ => ?_⟩
    obtain ⟨z, h3, h4⟩ := RP.of h1
    obtain ⟨b, h5, rfl⟩ := Option.map_eq_some_iff.mp h3
    exact ⟨A1, S1, d, v, b, rfl, s1, r1, h5, h4.here s1 rp_bl⟩

/-! ### calls of own defs -/
/-- a def's promise: it does what r says -/
def spR (K : PySem.W.Frag) (r : List D → Store → R D) : Sp := fun vs H Q E => ∃ ds A S, Rps K H A ds vs ∧ SR K H A S ∧ RP K (fun c d _ H => E c d H) [] A H (r ds S) Q
theorem r_call {k i : Nat} {f : Addr} {fd : FuncData} {ps : List Str} {x : Str} {p : Pos} {e : Expr} {es : List Expr} {as : Es} (G : GOk X.prog X.w X.K X.mg X.base k f fd ps (spR X.K (fx.F i))) (hr : Room k X.A) (hgd : X.A.guards = some []) (hg : Gl X x) (hm : X.mg x = some (.ref f))
    (hk : PySem.W.keepIn X.K (.ref f) = true) (hb : BindsAll X.K fd ps) (tk : Takes X W) (ha : PA X (e :: es) (tEs X.K fx W as)) (hdb : (x == ("__debug__" : Str)) = false) (he : starEach (e :: es) X.env = (false, eval e X.env) :: starEach es X.env) (hpl : (backTo pos (starEach es X.env)).any (·.1) = false) :
    PE X (.Call (.Name x p) (e :: es) [] pos) (tE X.K fx W (.call i as)) := by
  refine ⟨fun pins s σ H Q I ⟨env, A, S, hE, hS, h⟩ => ?_⟩
  unfold evE at h
  refine wpAny_Call_Name_kw (ld_glob I hg hm ?_ hdb)
  refine PySem.W.callWith_K (h₀ := X.base) I.ok.mod.kin hk (thn (ha.run pos pins s σ H _ I ⟨env, A, S, hE, hS, RPs.bind h⟩) fun us s1 ⟨vs, H1, I1, r, A1, S1, ds, x1, s1', r1, h1⟩ => ⟨I1.kIn, ?_⟩) he hpl
  exact run_G (args := ⟨us, []⟩) (E := WE W σ) G hr hgd (fun hl => hb.to hl) (passAt tk σ) I1 r ⟨ds, A1, S1, r1, s1', h1⟩
theorem r_call0 {k i : Nat} {f : Addr} {fd : FuncData} {ps : List Str} {x : Str} {p : Pos} (G : GOk X.prog X.w X.K X.mg X.base k f fd ps (spR X.K (fx.F i))) (hr : Room k X.A) (hgd : X.A.guards = some []) (hg : Gl X x) (hm : X.mg x = some (.ref f))
    (hk : PySem.W.keepIn X.K (.ref f) = true) (hb : BindsAll X.K fd ps) (tk : Takes X W) (hdb : (x == ("__debug__" : Str)) = false) : PE X (.Call (.Name x p) [] [] pos) (tE X.K fx W (.call i .nil)) := by
  refine ⟨fun pins s σ H Q I ⟨env, A, S, hE, hS, h⟩ => ?_⟩
  unfold evE at h
  unfold evEs at h
  refine wpAny_Call_Name_kw (ld_glob I hg hm ?_ hdb)
  refine PySem.W.callWith_K0 I.kIn hk ?_
  exact run_G (args := ⟨[], []⟩) (E := WE W σ) G hr hgd (fun hl => hb.to hl) (passAt tk σ) I .nil ⟨[], A, S, Rps.nil, hS, h⟩

/-! ### methods of lists -/
theorem tyV_view {K : PySem.W.Frag} {H : Hp} {A : Ads} {S : Store} (s : SR K H A S) {d : D} {v : V} {xs : List D} (r : Rp K H A d v) (h : view S d = .lst xs) : tyV K "list" v H := by
  obtain ⟨a, vs, rfl, q, _⟩ := view_lst s r h
  exact .inl ⟨rfl, vs, SqL.of q⟩
def mthName : Mth → Str
  | .count => "count"
  | .index => "index"
theorem r_mth {o : Mth} {a e : Expr} {es : List Expr} {a' : E} {as : Es} {apos : Pos} (hu : X.A.units + 65 < cLine) (ha : PE X a (tE X.K fx W a')) (hs : PA X (e :: es) (tEs X.K fx W as)) (hbase : attributeBase a (mthName o) X.env (eval a X.env) = eval a X.env)
    (hfew : ((backTo pos (starEach (e :: es) X.env)).all (fun x => !x.1) && (backToKw pos (keywordEach [] X.env)).all (fun x => x.1.isSome) && decide ((e :: es).length + ([] : List Keyword).length + (if ([] : List Keyword).isEmpty then 0 else 1) < 30)) = true)
    (hline : (apos.endLine == pos.line) = true) (he : starEach (e :: es) X.env = (false, eval e X.env) :: starEach es X.env) (hpl : (backTo pos (starEach es X.env)).any (·.1) = false) :
    PE X (.Call (.Attribute a (mthName o) apos) (e :: es) [] pos) (tE X.K fx W (.mth o a' as)) := by
  have key : ∀ {σ : L2.St} {H : Hp} {Q : VK}, tE X.K fx W (.mth o a' as) σ H Q → tBM X.K "list" (rMt X.K fun S => mthD S o) (tE X.K fx W a') (tEs X.K fx W as) σ H Q := fun {σ H Q} ⟨env, A, S, hE, hS, h⟩ => by
    unfold evE at h
    refine ⟨env, A, S, hE, hS, RP.imp (RP.bind h) fun v H1 ⟨A1, S1, d, x1, s1, r1, h1⟩ => ?_⟩
    split at h1
    · rename_i e1
      refine ⟨tyV_view s1 r1 e1, env, A1, S1, hE.mono x1 hS.noTup, s1, RPs.imp (RPs.bind h1) fun vs H2 ⟨A2, S2, ds, x2, s2, r2, h2⟩ => ?_⟩
      obtain ⟨z, h3, h4⟩ := RP.of h2
      exact ⟨A2, S2, d, ds, z, s2, r1.mono x2 s1.noTup, r2, h3, h4⟩
    · exact h1.elim
  cases o with
  | count => exact PE.imp (pe_bm PySem.F.plainAttrs_list PySem.F.slot_list_count PySem.F.type_list_count (mt_cntD hu) ha hs hbase hfew hline he hpl) fun σ H Q h => key h
  | index => exact PE.imp (pe_bm PySem.F.plainAttrs_list PySem.F.slot_list_index PySem.F.type_list_index (mt_idxD hu) ha hs hbase hfew hline he hpl) fun σ H Q h => key h
theorem r_app {a e : Expr} {a' e' : E} {apos : Pos} (ha : PE X a (tE X.K fx W a')) (hs : PE X e (tE X.K fx W e')) (hbase : attributeBase a "append" X.env (eval a X.env) = eval a X.env)
    (hfew : ((backTo pos (starEach [e] X.env)).all (fun x => !x.1) && (backToKw pos (keywordEach [] X.env)).all (fun x => x.1.isSome) && decide ([e].length + ([] : List Keyword).length + (if ([] : List Keyword).isEmpty then 0 else 1) < 30)) = true)
    (hline : (apos.endLine == pos.line) = true) (he : starEach [e] X.env = (false, eval e X.env) :: starEach [] X.env) (hpl : (backTo pos (starEach [] X.env)).any (·.1) = false) :
    PE X (.Call (.Attribute a "append" apos) [e] [] pos) (tE X.K fx W (.app a' e')) :=
  PE.imp (pe_bm PySem.F.plainAttrs_list PySem.F.slot_list_append PySem.F.type_list_append mt_append ha (pa_cons hs pa_nil he) hbase hfew hline he hpl) fun σ H Q ⟨env, A, S, hE, hS, h⟩ => by
    unfold evE at h
    refine ⟨env, A, S, hE, hS, RP.imp (RP.bind h) fun v H1 ⟨A1, S1, d, x1, s1, r1, h1⟩ => ?_⟩
    split at h1
    · rename_i e1
      refine ⟨tyV_view s1 r1 e1, env, A1, S1, hE.mono x1 hS.noTup, s1, RP.imp (RP.bind h1) fun u H2 ⟨A2, S2, d2, x2, s2, r2, h2⟩ => ?_⟩
      split at h2
      · split at h2
        · rename_i xs eS
          split at h2
          · rename_i hz
            have q1 := r1.mono x2 s1.noTup
            obtain ⟨l, b, hl, rfl⟩ := q1.ref
            obtain ⟨l', hl', hc⟩ := s2.get eS rfl
            rw [hl] at hl'
            cases hl'
            obtain ⟨vs, hH, hv⟩ := hc
            refine ⟨l, vs, u, rfl, rfl, hH, by rw [← hv.length, sizeLine_eq]; have : LIM = 100000 := rfl; omega, ?_⟩
            have x3 : Ext A2 H2 A2 (upd H2 l (.lst (vs ++ [u]))) := s2.extUpd hl
            exact h2 .non _ A2 x3 (s2.set hl rfl ⟨_, upd_same, (hv.snoc r2).mono x3 s2.noTup⟩) rp_non
          · exact h2.elim
        · exact h2.elim
      · exact h2.elim
    · exact h1.elim
theorem r_ext {a e : Expr} {a' e' : E} {apos : Pos} (ha : PE X a (tE X.K fx W a')) (hs : PE X e (tE X.K fx W e')) (hbase : attributeBase a "extend" X.env (eval a X.env) = eval a X.env)
    (hfew : ((backTo pos (starEach [e] X.env)).all (fun x => !x.1) && (backToKw pos (keywordEach [] X.env)).all (fun x => x.1.isSome) && decide ([e].length + ([] : List Keyword).length + (if ([] : List Keyword).isEmpty then 0 else 1) < 30)) = true)
    (hline : (apos.endLine == pos.line) = true) (he : starEach [e] X.env = (false, eval e X.env) :: starEach [] X.env) (hpl : (backTo pos (starEach [] X.env)).any (·.1) = false) :
    PE X (.Call (.Attribute a "extend" apos) [e] [] pos) (tE X.K fx W (.ext a' e')) :=
  PE.imp (pe_bm PySem.F.plainAttrs_list PySem.F.slot_list_extend PySem.F.type_list_extend mt_extend ha (pa_cons hs pa_nil he) hbase hfew hline he hpl) fun σ H Q ⟨env, A, S, hE, hS, h⟩ => by
    unfold evE at h
    refine ⟨env, A, S, hE, hS, RP.imp (RP.bind h) fun v H1 ⟨A1, S1, d, x1, s1, r1, h1⟩ => ?_⟩
    split at h1
    · rename_i e1
      refine ⟨tyV_view s1 r1 e1, env, A1, S1, hE.mono x1 hS.noTup, s1, RP.imp (RP.bind h1) fun u H2 ⟨A2, S2, d2, x2, s2, r2, h2⟩ => ?_⟩
      split at h2
      · split at h2
        · rename_i xs ys eS eV
          split at h2
          · rename_i hz
            have q1 := r1.mono x2 s1.noTup
            obtain ⟨l, b, hl, rfl⟩ := q1.ref
            obtain ⟨l', hl', hc⟩ := s2.get eS rfl
            rw [hl] at hl'
            cases hl'
            obtain ⟨vs, hH, hv⟩ := hc
            obtain ⟨m, us, rfl, hM, hw⟩ := view_lst s2 r2 eV
            refine ⟨l, m, vs, us, rfl, rfl, hH, hM, by rw [← hv.length, ← hw.length, sizeLine_eq]; have : LIM = 100000 := rfl; omega, ?_⟩
            have x3 : Ext A2 H2 A2 (upd H2 l (.lst (vs ++ us))) := s2.extUpd hl
            exact h2 .non _ A2 x3 (s2.set hl rfl ⟨_, upd_same, (hv.append hw).mono x3 s2.noTup⟩) rp_non
          · exact h2.elim
        · exact h2.elim
      · exact h2.elim
    · exact h1.elim
theorem r_pop {a : Expr} {a' : E} {apos : Pos} (ha : PE X a (tE X.K fx W a')) (hbase : attributeBase a "pop" X.env (eval a X.env) = eval a X.env) (hline : (apos.endLine == pos.line) = true) :
    PE X (.Call (.Attribute a "pop" apos) [] [] pos) (tE X.K fx W (.pop a')) :=
  PE.imp (pe_bm0 PySem.F.plainAttrs_list PySem.F.slot_list_pop PySem.F.type_list_pop mt_pop ha hbase hline) fun σ H Q ⟨env, A, S, hE, hS, h⟩ => by
    unfold evE at h
    refine ⟨env, A, S, hE, hS, RP.imp (RP.bind h) fun v H1 ⟨A1, S1, d, x1, s1, r1, h1⟩ => ?_⟩
    split at h1
    · split at h1
      · rename_i xs eS
        split at h1
        · rename_i d2 e2
          obtain ⟨l, b, hl, rfl⟩ := r1.ref
          obtain ⟨l', hl', hc⟩ := s1.get eS rfl
          rw [hl] at hl'
          cases hl'
          obtain ⟨vs, hH, hv⟩ := hc
          obtain ⟨y, hy, ry⟩ := hv.get e2
          have x3 : Ext A1 H1 A1 (upd H1 l (.lst vs.dropLast)) := s1.extUpd hl
          refine ⟨.inl ⟨rfl, vs, SqL.of hH⟩, l, vs, y, rfl, rfl, hH, by rw [← hv.length]; exact hy, ?_⟩
          exact h1 y _ A1 x3 (s1.set hl rfl ⟨_, upd_same, hv.dropLast.mono x3 s1.noTup⟩) (ry.mono x3 s1.noTup)
        · exact h1.elim
      · exact h1.elim
    · exact h1.elim
theorem Rps.eraseIdx {K : PySem.W.Frag} {H : Hp} {A : Ads} : ∀ (n : Nat) {ds : List D} {vs : List V}, Rps K H A ds vs → Rps K H A (ds.eraseIdx n) (vs.eraseIdx n)
  | _, [], _, h => by unfold Rps at h; rw [h]; exact Rps.nil
  | 0, _ :: ds, _, h => by
    obtain ⟨w, r, e, h1, h2⟩ := h.inv
    subst e
    exact h2
  | n + 1, _ :: ds, _, h => by
    obtain ⟨w, r, e, h1, h2⟩ := h.inv
    subst e
    exact .cons h1 (Rps.eraseIdx n h2)
theorem r_ppi {a e : Expr} {a' e' : E} {apos : Pos} (ha : PE X a (tE X.K fx W a')) (hs : PE X e (tE X.K fx W e')) (hbase : attributeBase a "pop" X.env (eval a X.env) = eval a X.env)
    (hfew : ((backTo pos (starEach [e] X.env)).all (fun x => !x.1) && (backToKw pos (keywordEach [] X.env)).all (fun x => x.1.isSome) && decide ([e].length + ([] : List Keyword).length + (if ([] : List Keyword).isEmpty then 0 else 1) < 30)) = true)
    (hline : (apos.endLine == pos.line) = true) (he : starEach [e] X.env = (false, eval e X.env) :: starEach [] X.env) (hpl : (backTo pos (starEach [] X.env)).any (·.1) = false) :
    PE X (.Call (.Attribute a "pop" apos) [e] [] pos) (tE X.K fx W (.ppi a' e')) :=
  PE.imp (pe_bm PySem.F.plainAttrs_list PySem.F.slot_list_pop PySem.F.type_list_pop mt_popAt ha (pa_cons hs pa_nil he) hbase hfew hline he hpl) fun σ H Q ⟨env, A, S, hE, hS, h⟩ => by
    unfold evE at h
    refine ⟨env, A, S, hE, hS, RP.imp (RP.bind h) fun v H1 ⟨A1, S1, d, x1, s1, r1, h1⟩ => ?_⟩
    split at h1
    · rename_i e1
      refine ⟨tyV_view s1 r1 e1, env, A1, S1, hE.mono x1 hS.noTup, s1, RP.imp (RP.bind h1) fun u H2 ⟨A2, S2, d2, x2, s2, r2, h2⟩ => ?_⟩
      split at h2
      · rename_i j _
        split at h2
        · rename_i xs eS
          split at h2
          · rename_i n en
            split at h2
            · rename_i d3 e3
              split at h2
              · rename_i hlim
                have r1' := r1.mono x2 s1.noTup
                obtain ⟨l, b, hl, rfl⟩ := r1'.ref
                obtain ⟨l', hl', hc⟩ := s2.get eS rfl
                rw [hl] at hl'
                cases hl'
                obtain ⟨vs, hH, hv⟩ := hc
                obtain ⟨y, hy, ry⟩ := hv.get e3
                have x3 : Ext A2 H2 A2 (upd H2 l (.lst (vs.eraseIdx n))) := s2.extUpd hl
                obtain ⟨q1, q2, q3, q4⟩ := ixN_seq en
                have hlim : xs.length ≤ 100000 := hlim
                refine ⟨l, vs, j, n, y, rfl, by rw [r2.int], hH, by omega, by omega, by rw [← hv.length]; exact q1, hy, ?_⟩
                exact h2 y _ A2 x3 (s2.set hl rfl ⟨_, upd_same, (Rps.eraseIdx n hv).mono x3 s2.noTup⟩) (ry.mono x3 s2.noTup)
              · exact h2.elim
            · exact h2.elim
          · exact h2.elim
        · exact h2.elim
      · exact h2.elim
    · exact h1.elim
end
end Rs
end

section
set_option Elab.async false
set_option linter.all false
set_option maxRecDepth 100000
set_option maxHeartbeats 1000000
set_option autoImplicit false
/-! RsSnd4: statements: what the evaluator says is what is done. Own work over HandS. -/
namespace Rs
open PySem PySem.Spec PyProof.Rows L2

/-! ### what is wanted behind a statement -/
def EndR (K : PySem.W.Frag) (A : Ads) (H : Hp) (env1 : Nv) (S : Store) (Q : L2.St → Hp → Prop) : Prop :=
  ∀ σ' H' A', Ext A H A' H' → SR K H' A' S → EnvR K H' A' env1 σ' → Q σ' H'
def RSt (K : PySem.W.Frag) (W : WX) (A : Ads) (H : Hp) (r : RS) (Z : Ends) : Prop :=
  match r with
  | .ok (.nx env1) S => EndR K A H env1 S Z.nx
  | .ok (.bk env1) S => EndR K A H env1 S Z.bk
  | .ok (.ct env1) S => EndR K A H env1 S Z.ct
  | .ok (.rt d) S => Out K A H S d Z.rt
  | .exc c env1 S => EndR K A H env1 S fun σ' H' => W (.ref (He.ga K c)) none σ' H'
  | .bad => False
def tS (K : PySem.W.Frag) (fx : Fx) (W : WX) (c : C) : TS := fun Z σ H => ∃ env A S, EnvR K H A env σ ∧ SR K H A S ∧ RSt K W A H (evC fx c env S) Z
def tSs (K : PySem.W.Frag) (fx : Fx) (W : WX) (c : Cs) : TS := fun Z σ H => ∃ env A S, EnvR K H A env σ ∧ SR K H A S ∧ RSt K W A H (evCs fx c env S) Z
section
variable {K : PySem.W.Frag} {W : WX} {σ : L2.St} {A A' : Ads} {H H' : Hp} {S : Store} {Z : Ends} {env : Nv}
theorem EndR.mono {Q : L2.St → Hp → Prop} (h : EndR K A H env S Q) (x : Ext A H A' H') : EndR K A' H' env S Q := fun σ2 H2 A2 y s e => h σ2 H2 A2 (x.trans y) s e
theorem EndR.here {Q : L2.St → Hp → Prop} (h : EndR K A H env S Q) (s : SR K H A S) (e : EnvR K H A env σ) : Q σ H := h σ H A (Ext.refl A H) s e
theorem RSt.mono {r : RS} (h : RSt K W A H r Z) (x : Ext A H A' H') : RSt K W A' H' r Z := by
  cases r with
  | ok f S =>
    cases f with
    | nx e => exact EndR.mono h x
    | bk e => exact EndR.mono h x
    | ct e => exact EndR.mono h x
    | rt d => exact Out.mono h x
  | exc c e S => exact EndR.mono h x
  | bad => exact h
/-- an expression, then the rest -/
theorem RSt.of {r : R D} {f : D → Store → RS} (h : RSt K W A H (RS.of r env f) Z) (hE : EnvR K H A env σ) (hS : SR K H A S) :
    RP K W σ A H r fun v H1 => ∃ A1 S1 d, Ext A H A1 H1 ∧ SR K H1 A1 S1 ∧ Rp K H1 A1 d v ∧ RSt K W A1 H1 (f d S1) Z := by
  cases r with
  | ok d S1 => exact fun v H1 A1 x s r => ⟨A1, S1, d, x, s, r, RSt.mono (r := f d S1) h x⟩
  | exc c S1 => exact fun A1 H1 x s => h σ H1 A1 x s (hE.mono x hS.noTup)
  | bad => exact h
theorem RSt.ofT {r : R D} {f : Bool → Store → RS} (h : RSt K W A H (RS.of r env fun x S => match truth S x with
      | some b => f b S
      | none => .bad) Z) (hE : EnvR K H A env σ) (hS : SR K H A S) :
    RT K W σ A H r fun b H1 => ∃ A1 S1, Ext A H A1 H1 ∧ SR K H1 A1 S1 ∧ RSt K W A1 H1 (f b S1) Z := by
  cases r with
  | ok d S1 =>
    have h : RSt K W A H (match truth S1 d with
      | some b => f b S1
      | none => .bad) Z := h
    cases t : truth S1 d with
    | none => rw [t] at h; exact h.elim
    | some b =>
      rw [t] at h
      exact ⟨b, t, fun A1 H1 x s => ⟨A1, S1, x, s, RSt.mono (r := f b S1) h x⟩⟩
  | exc c S1 => exact fun A1 H1 x s => h σ H1 A1 x s (hE.mono x hS.noTup)
  | bad => exact h
end

/-! ### the rules -/
section
variable {X : Cx} {fx : Fx} {W : WX} {pos : Pos}
theorem PS.imp {e : Stmt} {t t' : TS} (h : PS X e t) (k : ∀ Z σ H, t' Z σ H → t Z σ H) : PS X e t' := ⟨fun pins s σ H Z I q => h.run pins s σ H Z I (k Z σ H q)⟩
theorem PSs.imp {e : List Stmt} {t t' : TS} (h : PSs X e t) (k : ∀ Z σ H, t' Z σ H → t Z σ H) : PSs X e t' := ⟨fun pins s σ H Z I q => h.run pins s σ H Z I (k Z σ H q)⟩
theorem s_nil : PSs X [] (tSs X.K fx W .nil) :=
  PSs.imp pss_nil fun Z σ H ⟨env, A, S, hE, hS, h⟩ => by
    unfold evCs at h
    exact EndR.here h hS hE
theorem s_cons {s : Stmt} {r : List Stmt} {c : C} {cs : Cs} (h1 : PS X s (tS X.K fx W c)) (h2 : PSs X r (tSs X.K fx W cs)) : PSs X (s :: r) (tSs X.K fx W (.cons c cs)) :=
  PSs.imp (pss_cons h1 h2) fun Z σ H ⟨env, A, S, hE, hS, h⟩ => by
    unfold evCs at h
    refine ⟨env, A, S, hE, hS, ?_⟩
    cases r1 : evC fx c env S with
    | ok f S1 =>
      rw [r1] at h
      cases f with
      | nx e => exact fun σ' H' A' x s' e' => ⟨e, A', S1, e', s', RSt.mono (r := evCs fx cs e S1) h x⟩
      | bk e => exact h
      | ct e => exact h
      | rt d => exact h
    | exc c e S1 => rw [r1] at h; exact h
    | bad => rw [r1] at h; exact h
theorem s_pass : PS X (.Pass pos) (tS X.K fx W .pass) :=
  PS.imp ps_pass fun Z σ H ⟨env, A, S, hE, hS, h⟩ => by
    unfold evC at h
    exact EndR.here h hS hE
theorem s_brk : PS X (.Break pos) (tS X.K fx W .brk) :=
  PS.imp ps_break fun Z σ H ⟨env, A, S, hE, hS, h⟩ => by
    unfold evC at h
    exact EndR.here h hS hE
theorem s_cnt : PS X (.Continue pos) (tS X.K fx W .cnt) :=
  PS.imp ps_continue fun Z σ H ⟨env, A, S, hE, hS, h⟩ => by
    unfold evC at h
    exact EndR.here h hS hE
theorem s_doc {x : Str} {j : Nat} {pos' : Pos} : PS X (.Expr (.Constant (.str x) j pos) pos') (tS X.K fx W .pass) :=
  PS.imp ps_doc fun Z σ H ⟨env, A, S, hE, hS, h⟩ => by
    unfold evC at h
    exact EndR.here h hS hE
theorem s_expr {e : Expr} {e' : E} (he : PE X e (tE X.K fx W e')) (hs : swapsWith e none pos.line X.env = pure false) : PS X (.Expr e pos) (tS X.K fx W (.expr e')) :=
  PS.imp (ps_expr he hs) fun Z σ H ⟨env, A, S, hE, hS, h⟩ => by
    unfold evC at h
    exact ⟨env, A, S, hE, hS, (RSt.of h hE hS).imp fun v H1 ⟨A1, S1, d, x1, s1, r1, h1⟩ => EndR.here h1 s1 (hE.mono x1 hS.noTup)⟩
theorem s_ret {e : Expr} {e' : E} (he : PE X e (tE X.K fx W e')) : PS X (.Return (some e) pos) (tS X.K fx W (.ret e')) :=
  PS.imp (ps_ret he) fun Z σ H ⟨env, A, S, hE, hS, h⟩ => by
    unfold evC at h
    exact ⟨env, A, S, hE, hS, (RSt.of h hE hS).imp fun v H1 ⟨A1, S1, d, x1, s1, r1, h1⟩ => Out.here h1 s1 r1⟩
theorem s_retN : PS X (.Return none pos) (tS X.K fx W .retN) :=
  PS.imp ps_retN fun Z σ H ⟨env, A, S, hE, hS, h⟩ => by
    unfold evC at h
    exact Out.here h hS rp_non
theorem rg_of {K : PySem.W.Frag} {σ : L2.St} {A : Ads} {H : Hp} {vs : List Nat} {r : R Nv} {env : Nv} {Z : Ends} {S : Store} (h : RSt K W A H (match r with
    | .ok env1 S1 => .ok (.nx env1) S1
    | .exc c S1 => .exc c env S1
    | .bad => .bad) Z) (hE : EnvR K H A env σ) (hS : SR K H A S) : RG K W σ A H vs r Z.nx := by
  cases r with
  | ok env1 S1 => exact fun σ' H' A' x s e _ _ => h σ' H' A' x s e
  | exc c S1 => exact fun A1 H1 x s => h σ H1 A1 x s (hE.mono x hS.noTup)
  | bad => exact h
theorem s_asg {tg e : Expr} {t : Tg} {e' : E} (he : PE X e (tE X.K fx W e')) (hg : PG X tg (tG X.K fx W t)) (hs : swapsWithSole [tg] e pos.line X.env = pure false) (hw : swappedStores [tg] e X.env = pure none) (h1 : (assignEach [tg] X.env).map (·.2) = [assign tg X.env]) :
    PS X (.Assign [tg] e pos) (tS X.K fx W (.asg t e')) :=
  PS.imp (ps_asg he hg hs hw h1) fun Z σ H ⟨env, A, S, hE, hS, h⟩ => by
    unfold evC at h
    refine ⟨env, A, S, hE, hS, (RSt.of h hE hS).imp fun v H1 ⟨A1, S1, d, x1, s1, r1, h1⟩ => ?_⟩
    have hE1 := hE.mono x1 hS.noTup
    exact ⟨env, A1, S1, d, hE1, s1, r1, rg_of h1 hE1 s1⟩
theorem s_par2 {i j : Nat} {x y : Str} {a b : Expr} {es : Es} {px py pt : Pos} {kt k2 : Nat} {pt2 : Pos} (hc : X.calm = true) (hN : X.N.Nodup) (hi : X.N[i]? = some x) (hj : X.N[j]? = some y) (hij : i ≠ j) (hx : X.env.scope.names.lookup x = some .local) (hy : X.env.scope.names.lookup y = some .local) (ha : PA X [a, b] (tEs X.K fx W es))
    (hw : swappedStores [.Tuple [.Name x px, .Name y py] kt pt] (.Tuple [a, b] k2 pt2) X.env = pure (some [x, y])) (hs : swapsWithSole [.Tuple [.Name x px, .Name y py] kt pt] (.Tuple [a, b] k2 pt2) pos.line X.env = pure false) :
    PS X (.Assign [.Tuple [.Name x px, .Name y py] kt pt] (.Tuple [a, b] k2 pt2) pos) (tS X.K fx W (.par [i, j] es)) :=
  PS.imp (ps_par hc hN hi hj hij hx hy ha hw hs) fun Z σ H ⟨env, A, S, hE, hS, h⟩ => by
    unfold evC at h
    refine ⟨env, A, S, hE, hS, ?_⟩
    cases r1 : evEs fx es env S with
    | bad => rw [r1] at h; exact h.elim
    | exc c S1 => rw [r1] at h; exact fun A1 H1 x s => h σ H1 A1 x s (hE.mono x hS.noTup)
    | ok ds S1 =>
      rw [r1] at h
      intro vs H1 A1 x1 s1 q1
      match ds, h, q1 with
      | [d, e], h, q1 =>
        obtain ⟨v, u, rfl, w1, w2⟩ := rps2 q1
        exact ⟨v, u, rfl, h _ H1 A1 x1 s1 (((hE.mono x1 hS.noTup).set i w1).set j w2)⟩
      | [], h, _ => exact h.elim
      | [_], h, _ => exact h.elim
      | _ :: _ :: _ :: _, h, _ => exact h.elim
theorem s_par3 {i j l : Nat} {x y z : Str} {a b c : Expr} {es : Es} {px py pz pt : Pos} {kt k2 : Nat} {pt2 : Pos} (hc : X.calm = true) (hN : X.N.Nodup) (hi : X.N[i]? = some x) (hj : X.N[j]? = some y) (hl : X.N[l]? = some z) (hij : i ≠ j) (hil : i ≠ l) (hjl : j ≠ l)
    (hx : X.env.scope.names.lookup x = some .local) (hy : X.env.scope.names.lookup y = some .local) (hz : X.env.scope.names.lookup z = some .local) (ha : PA X [a, b, c] (tEs X.K fx W es))
    (hw : swappedStores [.Tuple [.Name x px, .Name y py, .Name z pz] kt pt] (.Tuple [a, b, c] k2 pt2) X.env = pure (some [x, y, z])) (hs : swapsWithSole [.Tuple [.Name x px, .Name y py, .Name z pz] kt pt] (.Tuple [a, b, c] k2 pt2) pos.line X.env = pure false) :
    PS X (.Assign [.Tuple [.Name x px, .Name y py, .Name z pz] kt pt] (.Tuple [a, b, c] k2 pt2) pos) (tS X.K fx W (.par [i, j, l] es)) :=
  PS.imp (ps_par3 hc hN hi hj hl hij hil hjl hx hy hz ha hw hs) fun Z σ H ⟨env, A, S, hE, hS, h⟩ => by
    unfold evC at h
    refine ⟨env, A, S, hE, hS, ?_⟩
    cases r1 : evEs fx es env S with
    | bad => rw [r1] at h; exact h.elim
    | exc c S1 => rw [r1] at h; exact fun A1 H1 x s => h σ H1 A1 x s (hE.mono x hS.noTup)
    | ok ds S1 =>
      rw [r1] at h
      intro vs H1 A1 x1 s1 q1
      match ds, h, q1 with
      | [d, e, g], h, q1 =>
        obtain ⟨v, vs2, rfl, w0, q2⟩ := q1.inv
        obtain ⟨u, w, rfl, w1, w2⟩ := rps2 q2
        exact ⟨v, u, w, rfl, h _ H1 A1 x1 s1 ((((hE.mono x1 hS.noTup).set i w0).set j w1).set l w2)⟩
      | [], h, _ => exact h.elim
      | [_], h, _ => exact h.elim
      | [_, _], h, _ => exact h.elim
      | _ :: _ :: _ :: _ :: _, h, _ => exact h.elim
theorem s_ite {c : Expr} {a b : List Stmt} {c' : E} {a' b' : Cs} (hc : PT X c (tT X.K fx W c')) (ha : PSs X a (tSs X.K fx W a')) (hb : PSs X b (tSs X.K fx W b')) : PS X (.If c a b pos) (tS X.K fx W (.ite c' a' b')) :=
  PS.imp (ps_if hc ha hb) fun Z σ H ⟨env, A, S, hE, hS, h⟩ => by
    have h : RSt X.K W A H (RS.of (evE fx c' env S) env fun x S => match truth S x with
      | some b => cond b (evCs fx a' env S) (evCs fx b' env S)
      | none => .bad) Z := by
      unfold evC at h
      have e : (fun (x : D) (S : Store) => match truth S x with
          | some true => evCs fx a' env S
          | some false => evCs fx b' env S
          | none => .bad) = fun x S => match truth S x with
          | some b => cond b (evCs fx a' env S) (evCs fx b' env S)
          | none => .bad := by
        funext x S
        cases truth S x with
        | none => rfl
        | some b => cases b <;> rfl
      rw [← e]
      exact h
    refine ⟨env, A, S, hE, hS, RT.imp (RSt.ofT (f := fun b S => cond b (evCs fx a' env S) (evCs fx b' env S)) h hE hS) fun k H1 ⟨A1, S1, x1, s1, h1⟩ => ?_⟩
    cases k with
    | true =>
      rw [if_pos rfl]
      exact ⟨env, A1, S1, hE.mono x1 hS.noTup, s1, h1⟩
    | false =>
      rw [if_neg Bool.false_ne_true]
      exact ⟨env, A1, S1, hE.mono x1 hS.noTup, s1, h1⟩
theorem s_ras {x : Str} {as : List Expr} {p pos2 : Pos} (hc : X.calm = true) (tk : Takes X W) (hm : PMk X (.Call (.Name x p) as [] pos2) (fun _ H Q => Q (.ref (He.ga X.K x)) none H)) :
    PS X (.Raise (some (.Call (.Name x p) as [] pos2)) none pos) (tS X.K fx W (.ras x)) :=
  PS.imp (ps_raise hc tk hm) fun Z σ H ⟨env, A, S, hE, hS, h⟩ => by
    unfold evC at h
    exact EndR.here h hS hE
/-- of a loop's body -/
theorem body_ends {K : PySem.W.Frag} {A : Ads} {H : Hp} {Z : Ends} {r : RS} {g : Nv → Store → RS} (h : RSt K W A H (match r with
      | .ok (.nx e) S2 => g e S2
      | .ok (.ct e) S2 => g e S2
      | .ok (.bk e) S2 => .ok (.nx e) S2
      | r => r) Z) {N : L2.St → Hp → Prop} (hN : ∀ e S2 σ' H' A', Ext A H A' H' → SR K H' A' S2 → EnvR K H' A' e σ' → RSt K W A' H' (g e S2) Z → N σ' H') : RSt K W A H r { Z with nx := N, ct := N, bk := Z.nx } := by
  cases r with
  | ok f S2 =>
    cases f with
    | nx e => exact fun σ' H' A' x s e' => hN e S2 σ' H' A' x s e' (RSt.mono (r := g e S2) h x)
    | ct e => exact fun σ' H' A' x s e' => hN e S2 σ' H' A' x s e' (RSt.mono (r := g e S2) h x)
    | bk e => exact h
    | rt d => exact h
  | exc c e S2 => exact h
  | bad => exact h
theorem s_whl {c : Expr} {body : List Stmt} {c' : E} {b' : Cs} (hp : PassesOwn (model X.prog X.w) X.A X.env X.xe) (hc : PT X c (tT X.K fx W c')) (hb : PSs X body (tSs X.K fx W b')) : PS X (.While c body [] pos) (tS X.K fx W (.whl c' b')) :=
  PS.imp (ps_while hp hc hb) fun Z σ H ⟨env, A, S, hE, hS, h⟩ => by
    unfold evC at h
    refine ⟨fun m σ H => ∃ env A S, EnvR X.K H A env σ ∧ SR X.K H A S ∧ RSt X.K W A H (whlL fx c' (fun e S => evCs fx b' e S) m env S) Z, ⟨WHL, env, A, S, hE, hS, h⟩, ?_⟩
    rintro m σ H ⟨env, A, S, hE, hS, h⟩
    cases m with
    | zero => unfold whlL at h; exact h.elim
    | succ m =>
      have h : RSt X.K W A H (RS.of (evE fx c' env S) env fun x S => match truth S x with
        | some b => cond b (match evCs fx b' env S with
          | .ok (.nx e) S2 => whlL fx c' (fun e S => evCs fx b' e S) m e S2
          | .ok (.ct e) S2 => whlL fx c' (fun e S => evCs fx b' e S) m e S2
          | .ok (.bk e) S2 => .ok (.nx e) S2
          | r => r) (.ok (.nx env) S)
        | none => .bad) Z := by
        unfold whlL at h
        have e : (fun (x : D) (S : Store) => match truth S x with
            | some true => (match evCs fx b' env S with
              | .ok (.nx e) S2 => whlL fx c' (fun e S => evCs fx b' e S) m e S2
              | .ok (.ct e) S2 => whlL fx c' (fun e S => evCs fx b' e S) m e S2
              | .ok (.bk e) S2 => RS.ok (.nx e) S2
              | r => r)
            | some false => .ok (.nx env) S
            | none => .bad) = fun x S => match truth S x with
            | some b => cond b (match evCs fx b' env S with
              | .ok (.nx e) S2 => whlL fx c' (fun e S => evCs fx b' e S) m e S2
              | .ok (.ct e) S2 => whlL fx c' (fun e S => evCs fx b' e S) m e S2
              | .ok (.bk e) S2 => RS.ok (.nx e) S2
              | r => r) (.ok (.nx env) S)
            | none => .bad := by
          funext x S
          cases truth S x with
          | none => rfl
          | some b => cases b <;> rfl
        rw [← e]
        exact h
      refine ⟨env, A, S, hE, hS, RT.imp (RSt.ofT (f := fun b S => cond b (match evCs fx b' env S with
          | .ok (.nx e) S2 => whlL fx c' (fun e S => evCs fx b' e S) m e S2
          | .ok (.ct e) S2 => whlL fx c' (fun e S => evCs fx b' e S) m e S2
          | .ok (.bk e) S2 => .ok (.nx e) S2
          | r => r) (.ok (.nx env) S)) h hE hS) fun k H1 ⟨A1, S1, x1, s1, h1⟩ => ?_⟩
      have hE1 := hE.mono x1 hS.noTup
      cases k with
      | true =>
        rw [if_pos rfl]
        refine ⟨fun σ H => ∃ env A S, EnvR X.K H A env σ ∧ SR X.K H A S ∧ RSt X.K W A H (whlL fx c' (fun e S => evCs fx b' e S) m env S) Z, fun σ' H' q => ⟨m, Nat.lt_succ_self m, q⟩, env, A1, S1, hE1, s1, ?_⟩
        exact body_ends h1 fun e S2 σ' H' A' x s e' q => ⟨e, A', S2, e', s, q⟩
      | false =>
        rw [if_neg Bool.false_ne_true]
        exact EndR.here h1 s1 hE1
theorem s_for {tg iter : Expr} {body : List Stmt} {t : Tg} {it : Rs.It} {b' : Cs} (hp : PassesOwn (model X.prog X.w) X.A X.env X.xe) (hc : X.calm = true) (hi : PI X tg iter (tI X.K fx W it)) (hg : PG X tg (tG X.K fx W t)) (hb : PSs X body (tSs X.K fx W b')) (hs : ∀ x, foldedSetIterable iter X.env x = pure x) :
    PS X (.For tg iter body [] pos) (tS X.K fx W (.fr t it b')) :=
  PS.imp (ps_for hp hc hi hg hb hs) fun Z σ H ⟨env, A, S, hE, hS, h⟩ => by
    unfold evC at h
    refine ⟨env, A, S, hE, hS, ?_⟩
    cases r : evIt fx it env S with
    | bad => rw [r] at h; exact h.elim
    | exc c S1 => rw [r] at h; exact fun A1 H1 x s => h σ H1 A1 x s (hE.mono x hS.noTup)
    | ok items S1 =>
      rw [r] at h
      have h : RSt X.K W A H (forL fx t (fun e S => evCs fx b' e S) items env S1) Z := h
      intro J H1 A1 x1 s1 y1
      refine ⟨fun i m σ H => m + i = items.length ∧ ∃ env A S, EnvR X.K H A env σ ∧ SR X.K H A S ∧ Ex A1 H1 A H ∧ RSt X.K W A H (forL fx t (fun e S => evCs fx b' e S) (items.drop i) env S) Z,
        ⟨items.length, rfl, env, A1, S1, hE.mono x1 hS.noTup, s1, Ex.refl A1 H1, RSt.mono h x1⟩, ?_⟩
      rintro i m σ H ⟨hm, env, A, S, hE, hS, x0, h⟩
      obtain ⟨yg, ys⟩ := y1 A H x0 hS.noTup
      by_cases hlt : i < items.length
      · rw [List.drop_eq_getElem_cons hlt] at h
        obtain ⟨go, yl⟩ := yg i items[i] (List.getElem?_eq_getElem hlt)
        refine .inr ⟨go, fun σ' H' => m - 1 + (i + 1) = items.length ∧ ∃ env A S, EnvR X.K H' A env σ' ∧ SR X.K H' A S ∧ Ex A1 H1 A H' ∧ RSt X.K W A H' (forL fx t (fun e S => evCs fx b' e S) (items.drop (i + 1)) env S) Z, fun σ' H' q => ⟨m - 1, by omega, q⟩, fun x H' hy => ?_⟩
        obtain ⟨hH, rd⟩ := yl x H' hy
        have x3 : Ext A H A H' ∧ SR X.K H' A S := by
          rcases hH with rfl | ⟨T', o, hT, rfl⟩
          · exact ⟨Ext.refl _ _, hS⟩
          · exact ⟨hS.extNew hT, hS.new hT⟩
        obtain ⟨x3, s3⟩ := x3
        have hE3 := hE.mono x3 hS.noTup
        refine ⟨env, A, S, items[i], hE3, s3, rd, ?_⟩
        unfold forL at h
        replace h := RSt.mono h x3
        cases r2 : bindT fx t items[i] env S with
        | bad => rw [r2] at h; exact h.elim
        | exc c S2 => rw [r2] at h; exact fun A2 H2 x s => h σ H2 A2 x s (hE3.mono x s3.noTup)
        | ok env1 S2 =>
          rw [r2] at h
          intro σ' H'' A' x4 s4 e4 _ _
          have h := RSt.mono (r := (match evCs fx b' env1 S2 with
            | .ok (.nx e) S2 => forL fx t (fun e S => evCs fx b' e S) (items.drop (i + 1)) e S2
            | .ok (.ct e) S2 => forL fx t (fun e S => evCs fx b' e S) (items.drop (i + 1)) e S2
            | .ok (.bk e) S2 => .ok (.nx e) S2
            | r => r)) h x4
          refine ⟨env1, A', S2, e4, s4, body_ends h fun e S5 σ5 H5 A5 x5 s5 e5 q => ⟨by omega, e, A5, S5, e5, s5, (x0.trans x3.toEx).trans (x4.toEx.trans x5.toEx), q⟩⟩
      · refine .inl ⟨ys i (by omega) (by omega), ?_⟩
        rw [List.drop_eq_nil_of_le (by omega)] at h
        unfold forL at h
        exact EndR.here h hS hE
end
end Rs
end

section
set_option Elab.async false
set_option linter.all false
set_option maxRecDepth 100000
set_option maxHeartbeats 1000000
set_option autoImplicit false
/-! RsSnd5: lists of ranges, places that are set, comprehensions stored at once. Own work over HandS. -/
namespace Rs
open PySem PySem.Spec PyProof.Rows L2
section
variable {X : Cx} {fx : Fx} {W : WX} {pos : Pos}
theorem rps_rg {K : PySem.W.Frag} {H : Hp} {A : Ads} (a b : Int) : Rps K H A (rangeI a b) (rgV a b) := by
  unfold rangeI rgV
  generalize List.range (b - a).toNat = l
  induction l with
  | nil => exact Rps.nil
  | cons n l ih => exact Rps.cons rp_int ih
/-- the bounds of a range, by the arguments' values -/
def RgQ (K : PySem.W.Frag) (A : Ads) (H : Hp) (S : Store) (a b : Int) (H1 : Hp) (A1 : Ads) : Prop := Ext A H A1 H1 ∧ SR K H1 A1 S
theorem rg_1 {K : PySem.W.Frag} {σ : L2.St} {env : Nv} {A : Ads} {S : Store} {H : Hp} {a' : E} {f : List D → Store → R D} {Q : VK} {Q2 : Int → Int → Hp → Prop} (hE : EnvR K H A env σ) (hS : SR K H A S) (h : RP K W σ A H ((evEs fx (.cons a' .nil) env S).bind f) Q)
    (k : ∀ d S1 A1 H1, Ext A H A1 H1 → SR K H1 A1 S1 → RP K W σ A1 H1 (f [d] S1) Q → ∃ i, d = .int i ∧ Q2 0 i H1) : tRg1 (tE K fx W a') σ H Q2 := by
  refine ⟨env, A, S, hE, hS, ?_⟩
  unfold evEs at h
  cases r : evE fx a' env S with
  | bad => rw [r] at h; exact h.elim
  | exc c S1 => rw [r] at h; exact h
  | ok d S1 =>
    rw [r] at h
    have h : RP K W σ A H (f [d] S1) Q := by
      unfold evEs at h
      exact h
    intro v H1 A1 x1 s1 r1
    obtain ⟨i, rfl, q⟩ := k d S1 A1 H1 x1 s1 (RP.mono h x1)
    exact ⟨i, r1.int, q⟩
theorem rg_2 {K : PySem.W.Frag} {σ : L2.St} {env : Nv} {A : Ads} {S : Store} {H : Hp} {a' b' : E} {f : List D → Store → R D} {Q : VK} {Q2 : Int → Int → Hp → Prop} (hE : EnvR K H A env σ) (hS : SR K H A S) (h : RP K W σ A H ((evEs fx (.cons a' (.cons b' .nil)) env S).bind f) Q)
    (k : ∀ d e S1 A1 H1, Ext A H A1 H1 → SR K H1 A1 S1 → RP K W σ A1 H1 (f [d, e] S1) Q → ∃ i j, d = .int i ∧ e = .int j ∧ Q2 i j H1) : tRg2 (tE K fx W a') (tE K fx W b') σ H Q2 := by
  refine ⟨env, A, S, hE, hS, ?_⟩
  unfold evEs at h
  cases r : evE fx a' env S with
  | bad => rw [r] at h; exact h.elim
  | exc c S1 => rw [r] at h; exact h
  | ok d S1 =>
    rw [r] at h
    intro v H1 A1 x1 s1 r1
    refine ⟨env, A1, S1, hE.mono x1 hS.noTup, s1, ?_⟩
    unfold evEs at h
    cases r2 : evE fx b' env S1 with
    | bad => simp only [r2, R.bind] at h; exact h.elim
    | exc c S2 => simp only [r2, R.bind] at h; exact Exo.mono h x1
    | ok e S2 =>
      simp only [r2, R.bind, evEs] at h
      intro u H2 A2 x2 s2 r2'
      obtain ⟨i, j, rfl, rfl, q⟩ := k d e S2 A2 H2 (x1.trans x2) s2 (RP.mono h (x1.trans x2))
      exact ⟨i, j, r1.int, r2'.int, q⟩
theorem rgok {i j : Int} (h1 : -1000000 ≤ i) (h2 : i ≤ 1000000) (h3 : -1000000 ≤ j) (h4 : j ≤ 1000000) : RgOk i j := ⟨by omega, by omega, by omega, by omega, by omega⟩
/-- what rngD gives of one, of two -/
theorem rng1_inv {d : D} {xs : List D} (h : rngD [d] = some xs) : ∃ j, d = .int j ∧ -1000000 ≤ j ∧ j ≤ 1000000 ∧ xs = rangeI 0 j := by
  cases d <;> first | (unfold rngD at h; cases h; done) | skip
  rename_i j
  unfold rngD at h
  simp only [] at h
  split at h
  · rename_i hj
    rw [Bool.and_eq_true, decide_eq_true_eq, decide_eq_true_eq] at hj
    cases h
    exact ⟨j, rfl, hj.1, hj.2, rfl⟩
  · cases h
theorem rng2_inv {d e : D} {xs : List D} (h : rngD [d, e] = some xs) : ∃ i j, d = .int i ∧ e = .int j ∧ -1000000 ≤ i ∧ i ≤ 1000000 ∧ -1000000 ≤ j ∧ j ≤ 1000000 ∧ xs = rangeI i j := by
  cases d <;> first | (unfold rngD at h; cases h; done) | skip
  cases e <;> first | (unfold rngD at h; cases h; done) | skip
  rename_i i j
  unfold rngD at h
  simp only [] at h
  split at h
  · rename_i hj
    rw [Bool.and_eq_true, Bool.and_eq_true, Bool.and_eq_true, decide_eq_true_eq, decide_eq_true_eq, decide_eq_true_eq, decide_eq_true_eq] at hj
    cases h
    exact ⟨i, j, rfl, rfl, hj.1.1.1, hj.1.1.2, hj.1.2, hj.2, rfl⟩
  · cases h
theorem r_lrg {e : Expr} {p : Pos} {te : L2.St → Hp → (Int → Int → Hp → Prop) → Prop} {as : Es} (hc : X.calm = true) (hg : Gl X "list") (hm : X.mg "list" = none) (he : PRg X e te) (na : starEach [e] X.env = (false, eval e X.env) :: starEach [] X.env)
    (k : ∀ (σ : L2.St) (H : Hp) (Q2 : Int → Int → Hp → Prop) (Q : VK) (env : Nv) (A : Ads) (S : Store), EnvR X.K H A env σ → SR X.K H A S → RP X.K W σ A H ((evEs fx as env S).bind fun ds S => match rngD ds with
      | some xs => .ok (.lst xs) S
      | none => .bad) Q → (∀ i j S1 A1 H1, Ext A H A1 H1 → SR X.K H1 A1 S1 → -1000000 ≤ i → i ≤ 1000000 → -1000000 ≤ j → j ≤ 1000000 → Out X.K A1 H1 S1 (.lst (rangeI i j)) Q → Q2 i j H1) → te σ H Q2) :
    PE X (.Call (.Name "list" p) [e] [] pos) (tE X.K fx W (.rng true as)) :=
  PE.imp (pe_listRg hc hg hm he na) fun σ H Q ⟨env, A, S, hE, hS, h⟩ => by
    unfold evE at h
    refine k σ H _ Q env A S hE hS h fun i j S1 A1 H1 x1 s1 h1 h2 h3 h4 q => ⟨rgok h1 h2 h3 h4, fun p hp => q.lstN s1 (rps_rg i j) hp⟩
theorem r_trg {e : Expr} {p : Pos} {te : L2.St → Hp → (Int → Int → Hp → Prop) → Prop} {as : Es} (hc : X.calm = true) (hg : Gl X "tuple") (hm : X.mg "tuple" = none) (he : PRg X e te) (na : starEach [e] X.env = (false, eval e X.env) :: starEach [] X.env)
    (k : ∀ (σ : L2.St) (H : Hp) (Q2 : Int → Int → Hp → Prop) (Q : VK) (env : Nv) (A : Ads) (S : Store), EnvR X.K H A env σ → SR X.K H A S → RP X.K W σ A H ((evEs fx as env S).bind fun ds S => match rngD ds with
      | some xs => .ok (.tup xs) S
      | none => .bad) Q → (∀ i j S1 A1 H1, Ext A H A1 H1 → SR X.K H1 A1 S1 → -1000000 ≤ i → i ≤ 1000000 → -1000000 ≤ j → j ≤ 1000000 → Out X.K A1 H1 S1 (.tup (rangeI i j)) Q → Q2 i j H1) → te σ H Q2) :
    PE X (.Call (.Name "tuple" p) [e] [] pos) (tE X.K fx W (.rng false as)) :=
  PE.imp (pe_tupRg hc hg hm he na) fun σ H Q ⟨env, A, S, hE, hS, h⟩ => by
    unfold evE at h
    refine k σ H _ Q env A S hE hS h fun i j S1 A1 H1 x1 s1 h1 h2 h3 h4 q => ⟨rgok h1 h2 h3 h4, fun p hp => q.tupN s1 (rps_rg i j) hp⟩
/-- the range's own expression, with its arguments -/
inductive RgE (X : Cx) (fx : Fx) (W : WX) : Expr → Es → Prop
  | one {a : Expr} {a' : E} {p pos : Pos} (ha : PE X a (tE X.K fx W a')) (na : starEach [a] X.env = (false, eval a X.env) :: starEach [] X.env) : RgE X fx W (.Call (.Name "range" p) [a] [] pos) (.cons a' .nil)
  | two {a b : Expr} {a' b' : E} {p pos : Pos} (ha : PE X a (tE X.K fx W a')) (hb : PE X b (tE X.K fx W b')) (na : starEach [a, b] X.env = (false, eval a X.env) :: starEach [b] X.env) (nb : starEach [b] X.env = (false, eval b X.env) :: starEach [] X.env)
      (hp : (backTo pos (starEach [b] X.env)).any (·.1) = false) : RgE X fx W (.Call (.Name "range" p) [a, b] [] pos) (.cons a' (.cons b' .nil))
theorem out_of {K : PySem.W.Frag} {σ : L2.St} {A : Ads} {H : Hp} {S : Store} {Q : VK} {o : Option (List D)} {c : List D → D} (h : RP K W σ A H (match o with
    | some xs => .ok (c xs) S
    | none => .bad) Q) : ∃ xs, o = some xs ∧ Out K A H S (c xs) Q := by
  cases o with
  | none => exact h.elim
  | some xs => exact ⟨xs, rfl, h⟩
theorem r_rngL {e : Expr} {p : Pos} {as : Es} (hc : X.calm = true) (hg : Gl X "list") (hm : X.mg "list" = none) (hgr : Gl X "range") (hmr : X.mg "range" = none) (h : RgE X fx W e as) (na : starEach [e] X.env = (false, eval e X.env) :: starEach [] X.env) :
    PE X (.Call (.Name "list" p) [e] [] pos) (tE X.K fx W (.rng true as)) := by
  cases h with
  | one ha n1 =>
    refine r_lrg hc hg hm (prg_1 hgr hmr ha n1) na fun σ H Q2 Q env A S hE hS h k => rg_1 hE hS h fun d S1 A1 H1 x1 s1 q => ?_
    obtain ⟨xs, e1, ho⟩ := out_of (c := .lst) q
    obtain ⟨j, rfl, h1, h2, rfl⟩ := rng1_inv e1
    exact ⟨j, rfl, k 0 j S1 A1 H1 x1 s1 (by decide) (by decide) h1 h2 ho⟩
  | two ha hb n1 n2 hp =>
    refine r_lrg hc hg hm (prg_2 hgr hmr ha hb n1 n2 hp) na fun σ H Q2 Q env A S hE hS h k => rg_2 hE hS h fun d e S1 A1 H1 x1 s1 q => ?_
    obtain ⟨xs, e1, ho⟩ := out_of (c := .lst) q
    obtain ⟨i, j, rfl, rfl, h1, h2, h3, h4, rfl⟩ := rng2_inv e1
    exact ⟨i, j, rfl, rfl, k i j S1 A1 H1 x1 s1 h1 h2 h3 h4 ho⟩
theorem r_rngT {e : Expr} {p : Pos} {as : Es} (hc : X.calm = true) (hg : Gl X "tuple") (hm : X.mg "tuple" = none) (hgr : Gl X "range") (hmr : X.mg "range" = none) (h : RgE X fx W e as) (na : starEach [e] X.env = (false, eval e X.env) :: starEach [] X.env) :
    PE X (.Call (.Name "tuple" p) [e] [] pos) (tE X.K fx W (.rng false as)) := by
  cases h with
  | one ha n1 =>
    refine r_trg hc hg hm (prg_1 hgr hmr ha n1) na fun σ H Q2 Q env A S hE hS h k => rg_1 hE hS h fun d S1 A1 H1 x1 s1 q => ?_
    obtain ⟨xs, e1, ho⟩ := out_of (c := .tup) q
    obtain ⟨j, rfl, h1, h2, rfl⟩ := rng1_inv e1
    exact ⟨j, rfl, k 0 j S1 A1 H1 x1 s1 (by decide) (by decide) h1 h2 ho⟩
  | two ha hb n1 n2 hp =>
    refine r_trg hc hg hm (prg_2 hgr hmr ha hb n1 n2 hp) na fun σ H Q2 Q env A S hE hS h k => rg_2 hE hS h fun d e S1 A1 H1 x1 s1 q => ?_
    obtain ⟨xs, e1, ho⟩ := out_of (c := .tup) q
    obtain ⟨i, j, rfl, rfl, h1, h2, h3, h4, rfl⟩ := rng2_inv e1
    exact ⟨i, j, rfl, rfl, k i j S1 A1 H1 x1 s1 h1 h2 h3 h4 ho⟩

/-! ### a place of a list is set -/
theorem rg_bind {K : PySem.W.Frag} {σ : L2.St} {A : Ads} {H : Hp} {vs : List Nat} {r : R D} {f : D → Store → R Nv} {Q : L2.St → Hp → Prop} (h : RG K W σ A H vs (r.bind f) Q) :
    RP K W σ A H r fun v H1 => ∃ A1 S1 d, Ext A H A1 H1 ∧ SR K H1 A1 S1 ∧ Rp K H1 A1 d v ∧ RG K W σ A1 H1 vs (f d S1) Q := by
  cases r with
  | bad => exact h
  | exc c S1 => exact h
  | ok d S1 =>
    intro v H1 A1 x s r
    refine ⟨A1, S1, d, x, s, r, ?_⟩
    have h : RG K W σ A H vs (f d S1) Q := h
    cases e : f d S1 with
    | bad => rw [e] at h; exact h
    | exc c S2 => rw [e] at h; exact Exo.mono h x
    | ok env1 S2 => rw [e] at h; exact fun σ' H2 A2 y => h σ' H2 A2 (x.trans y)
theorem r_gsub {o i : Expr} {o' i' : E} (ho : PE X o (tE X.K fx W o')) (hi : PE X i (tE X.K fx W i'))
    (ha : ∀ v, assign (.Subscript o i pos) X.env v = (do
      let ov ← holding [v] (eval o X.env)
      let iv ← holding [v, ov] (eval i X.env)
      standAt pos
      holding [v, ov, iv] (setItem ov iv v)
      release [v, ov, iv] [])) : PG X (.Subscript o i pos) (tG X.K fx W (.sub o' i')) :=
  PG.imp (pg_sub ho hi set_list ha) fun x σ H Q ⟨env, A, S, d, hE, hS, hd, h⟩ => by
    unfold bindT at h
    refine ⟨env, A, S, hE, hS, RP.imp (rg_bind h) fun u H1 ⟨A1, S1, d1, x1, s1, r1, h1⟩ => ?_⟩
    have hE1 := hE.mono x1 hS.noTup
    refine ⟨env, A1, S1, hE1, s1, RP.imp (rg_bind h1) fun w H2 ⟨A2, S2, d2, x2, s2, r2, h2⟩ => ?_⟩
    split at h2
    · split at h2
      · rename_i xs eS
        split at h2
        · rename_i j
          split at h2
          · rename_i n en
            have q1 := r1.mono x2 s1.noTup
            obtain ⟨l, b, hl, rfl⟩ := q1.ref
            obtain ⟨l', hl', hc⟩ := s2.get eS rfl
            rw [hl] at hl'
            cases hl'
            obtain ⟨vs, hH, hv⟩ := hc
            have x3 : Ext A2 H2 A2 (upd H2 l (.lst (vs.set n x))) := s2.extUpd hl
            have hd2 := (hd.mono x1 hS.noTup).mono x2 s1.noTup
            refine ⟨l, vs, j, n, rfl, r2.int, hH, by rw [← hv.length]; exact en, ?_⟩
            exact h2 σ _ A2 x3 (s2.set hl rfl ⟨_, upd_same, (hv.set hd2 n).mono x3 s2.noTup⟩) ((hE1.mono x2 s1.noTup).mono x3 s2.noTup) rfl fun _ _ => rfl
          · exact h2.elim
        · exact h2.elim
      · exact h2.elim
    · exact h2.elim

/-! ### a comprehension that is stored at once -/
theorem s_setLc {i : Nat} {y : Str} {py spos : Pos} {elt tg iter : Expr} {ifs : List Expr} {gs : List Comprehension} {scope : Scope} {own : List (Str × Nat)} {t' : Tg} {it' : Rs.It} {c' : Es} {g' : Gs} {elt' : E}
    (hc : X.calm = true) (hN : X.N.Nodup) (hy : X.N[i]? = some y) (hyl : X.env.scope.names.lookup y = some .local) (hsw : swapsWith (.ListComp elt (allG tg iter ifs gs) scope pos) (some (.Name y py)) spos.line X.env = pure true)
    (hi : PI X tg iter (tI X.K fx W it')) (ok : BlkOk X.N X.env.scope scope own) (hb : BlkR X fx elt tg iter ifs gs scope pos elt' t' c' g') (hsl : ∀ j, j ∈ slT t' ++ slG g' → j ∈ own.map (·.2)) (hs : ∀ x, foldedSetIterable iter X.env x = pure x) :
    PS X (.Assign [.Name y py] (.ListComp elt (allG tg iter ifs gs) scope pos) spos) (fun Z σ H => tFr X.K fx W (.lc (own.map (·.2)) elt' t' it' c' g') σ H fun x H1 => Z.nx (σ.set i (some x)) H1) := by
  refine ⟨fun pins s σ H D I h => ?_⟩
  rw [exec_Assign_Name_used _ _ _ _ hsw]
  refine wpAny_bind (wpAny_standAt (wpAny_bind ?_))
  show wpAny _ X.A (do let _ ← comprehension (.ListComp elt (allG tg iter ifs gs) scope pos) scope X.env (firstIterPos (allG tg iter ifs gs) pos) (newList []) false (eval iter X.env) (some (assign (.Name y py) X.env))) _ _ s
  refine wpAny_bind (thn (lcN_core (Qf := fun _ s' => SP X pins D .next s') hc hN I hi ok hb hsl hs h fun L C s' m H' I' q hn f => ?_) fun _ s' hq => wpAny_pure (wpAny_pure hq))
  show wpAny _ _ (assign (.Name y py) X.env (.ref L)) _ _ _
  refine wpAny_assign_Name (store_ok2 (v := V.ref L) I' hN hy (.inl hyl) rfl (fun s2 I2 ⟨a, sb, ha⟩ => ?_) (.inr hyl))
  obtain ⟨f0, f1, f2, f3, f4, f5⟩ := f
  have haC : C ≠ a := ha.elim (fun z => by rw [z]; exact f1) fun z e => f4 y a z e.symm
  exact ⟨m, hn.sameBut sb haC, fun h3 sb3 => ⟨_, H', I2.turned (t' := s2.toks) (fun b o hb e => (sb3.2 b hb).trans e) f0 f1 f3 f4 f5, q⟩⟩
theorem s_setF {i : Nat} {e' : E} {st : Stmt} (h : PS X st (fun Z σ H => tFr X.K fx W e' σ H fun x H1 => Z.nx (σ.set i (some x)) H1)) (hl : GivesL fx e') : PS X st (tS X.K fx W (.asg (.nm i) e')) :=
  PS.imp h fun Z σ H ⟨env, A, S, hE, hS, h⟩ => by
    unfold evC at h
    refine ⟨env, A, S, hE, hS, ?_⟩
    cases r : evE fx e' env S with
    | bad => rw [r] at h; exact h.elim
    | exc c S1 => rw [r] at h; exact fun A1 H1 x s => h σ H1 A1 x s (hE.mono x hS.noTup)
    | ok d S1 =>
      rw [r] at h
      obtain ⟨ds, rfl⟩ := hl _ _ _ _ r
      intro H1 A1 vs p x1 s1 r1 hp
      have h : RSt X.K W A H (match bindT fx (.nm i) (.lst ds) env S1 with
        | .ok env1 S1 => .ok (.nx env1) S1
        | .exc c S1 => .exc c env S1
        | .bad => .bad) Z := h
      unfold bindT at h
      have x2 : Ext A1 H1 A1 (upd H1 p (.lst vs)) := s1.extNew hp
      have np : ¬ A1.live p := fun z => s1.live z hp
      exact h _ _ A1 (x1.trans x2) (s1.new hp) (((hE.mono x1 hS.noTup).mono x2 s1.noTup).set i (by unfold Rp; exact ⟨p, vs, rfl, upd_same, np, r1.mono x2 s1.noTup⟩))
theorem s_setM {i : Nat} {e' : E} {st : Stmt} (h : PS X st (fun Z σ H => tFr X.K fx W e' σ H fun x H1 => Z.nx (σ.set i (some x)) H1)) (hl : GivesL fx e') : PS X st (tS X.K fx W (.asg (.nm i) (.mut e'))) :=
  PS.imp h fun Z σ H ⟨env, A, S, hE, hS, h⟩ => by
    unfold evC at h
    refine ⟨env, A, S, hE, hS, ?_⟩
    unfold evE at h
    cases r : evE fx e' env S with
    | bad => rw [r] at h; exact h.elim
    | exc c S1 => rw [r] at h; exact fun A1 H1 x s => h σ H1 A1 x s (hE.mono x hS.noTup)
    | ok d S1 =>
      rw [r] at h
      obtain ⟨ds, rfl⟩ := hl _ _ _ _ r
      intro H1 A1 vs p x1 s1 r1 hp
      have h : RSt X.K W A H (match bindT fx (.nm i) (.ref S1.length) env (S1 ++ [.lst ds]) with
        | .ok env1 S1 => .ok (.nx env1) S1
        | .exc c S1 => .exc c env S1
        | .bad => .bad) Z := h
      unfold bindT at h
      have x2 : Ext A1 H1 (A1.add p) (upd H1 p (.lst vs)) := ext_cell hp (s1.notO hp)
      refine h _ _ (A1.add p) (x1.trans x2) (s1.push hp rfl ⟨vs, upd_same, r1.mono x2 s1.noTup⟩) (((hE.mono x1 hS.noTup).mono x2 s1.noTup).set i ?_)
      unfold Rp
      refine ⟨p, true, ?_, rfl⟩
      show (A1.c ++ [(p, true)])[S1.length]? = _
      rw [← s1.len]
      simp
end
end Rs
end

section
set_option Elab.async false
set_option linter.all false
set_option maxRecDepth 100000
set_option maxHeartbeats 3200000
set_option autoImplicit false
/-! RsSet: how many different tuples of whole numbers stand in a tuple. Own work over HandS; the set's making follows HandS.SetFor and HandS.TupSets. -/
namespace Rs
open PySem PySem.Spec PyProof.Rows L2

/-! ### counting -/
def dz : List (List Int) → Nat
  | [] => 0
  | z :: r => if z ∈ r then dz r else dz r + 1
theorem dz_of : ∀ (zs M : List (List Int)), M.Nodup → (∀ z ∈ M, z ∈ zs) → (∀ z ∈ zs, z ∈ M) → M.length = dz zs
  | [], M, _, h1, _ => by
    cases M with
    | nil => rfl
    | cons m r => exact absurd (h1 m List.mem_cons_self) (by simp)
  | z :: r, M, nd, h1, h2 => by
    unfold dz
    by_cases hz : z ∈ r
    · rw [if_pos hz]
      refine dz_of r M nd (fun y hy => ?_) fun y hy => h2 y (List.mem_cons_of_mem _ hy)
      rcases List.mem_cons.mp (h1 y hy) with e | e
      · rw [e]; exact hz
      · exact e
    · rw [if_neg hz]
      have hm : z ∈ M := h2 z List.mem_cons_self
      have ih := dz_of r (M.erase z) (nd.erase z) (fun y hy => ?_) (fun y hy => ?_)
      · rw [List.length_erase_of_mem hm] at ih
        have := List.length_pos_of_mem hm
        omega
      · have hy2 := (nd.mem_erase_iff).mp hy
        rcases List.mem_cons.mp (h1 y hy2.2) with e | e
        · exact absurd e hy2.1
        · exact e
      · exact (nd.mem_erase_iff).mpr ⟨fun e => hz (by rw [← e]; exact hy), h2 y (List.mem_cons_of_mem _ hy)⟩
theorem eqvs_ints : ∀ a b : List Int, eqvs (a.map .int) (b.map .int) = decide (a = b)
  | [], [] => rfl
  | [], _ :: _ => rfl
  | _ :: _, [] => rfl
  | x :: a, y :: b => by
    show (eqv (.int x) (.int y) && eqvs (a.map .int) (b.map .int)) = _
    rw [eqvs_ints a b]
    unfold eqv
    by_cases h1 : x = y
    · by_cases h2 : a = b <;> simp [h1, h2]
    · simp [h1]
theorem anyEq_ints (z : List Int) : ∀ zs : List (List Int), anyEq (.tup (z.map .int)) (zs.map fun k => .tup (k.map .int)) = decide (z ∈ zs)
  | [] => by simp [anyEq]
  | y :: r => by
    have ih := anyEq_ints z r
    unfold anyEq at ih ⊢
    rw [List.map_cons, List.any_cons, ih]
    have e : eqv (.tup (y.map .int)) (.tup (z.map .int)) = decide (y = z) := by
      rw [← eqvs_ints y z]
      unfold eqv
      rfl
    rw [e]
    by_cases h1 : y = z
    · simp [h1]
    · by_cases h2 : z ∈ r
      · simp [h2]
      · simp [h1, h2]; exact fun q => h1 q.symm
theorem distinct_ints : ∀ zs : List (List Int), distinct (zs.map fun k => .tup (k.map .int)) = dz zs
  | [] => rfl
  | z :: r => by
    rw [List.map_cons]
    unfold distinct dz
    rw [anyEq_ints, distinct_ints r]
    by_cases h : z ∈ r
    · rw [if_pos h, if_pos (decide_eq_true h)]
    · rw [if_neg h, if_neg (by simpa using h)]

/-! ### set(t), t a tuple of tuples -/
abbrev emptyS (w : World) : Obj := { cls := .type "set", dict := none, data := .set #[] 0 (.fresh 0 0 (!w.params.followText "set-order")) }
section
variable {P : Program} {w : World} {A : Around} {E : Value → Shared → Prop} {s : Shared}
theorem set_of_tup {l : Addr} {items : Array Value} (ks : List (Addr × List Int)) {Q : Value → Shared → Prop} (hh : A.handled = none) (hl : s.heap.IsTuple l items) (hit : items.toList = ks.map fun p => Value.ref p.1) (hk : ∀ p ∈ ks, IsT P w s.heap p.2 p.1)
    (hfew : ks.length < 64) (hu : A.units + 3 < cLine) (h : ∀ (h' : Heap) (tk : Nat) L es ep t, SetTR P w h' s.heap.objs.size L es ep t → Got ks ks.length L → (∀ b o, s.heap.get? b = some o → h'.get? b = some o) → Q (.ref s.heap.objs.size) { s with heap := h', toks := tk }) :
    wpAny (model P w) A (call (.type "set") [.ref l]) Q E s := by
  have hisz : items.size = ks.length := by rw [← Array.length_toList, hit, List.length_map]
  obtain ⟨c, tl, hmro⟩ := F.called_set.mro
  have hmade := F.called_set.made
  have hsub := F.called_set.sub
  refine wpAny_call (codeAny_of_tree ?_)
  show wpAny _ _ (callAny (.type "set") _) _ _ _
  refine wpAny_pure ⟨Code.quiet_builtin _ (by decide +kernel), codeAny_builtin F.entry_type_call ?_⟩
  rw [Around.under_plain (weight_type_call_type "set" [.ref l] []) rfl]
  have h1 := F.called_set.notType
  have h2 := F.called_set.canCreate
  have hct := F.typeCall_set_1 (.ref l)
  repeat (any_goals (first | assumption | wp_step))
  generalize hp : s.heap.objs.size = p at h ⊢
  refine codeAny_mono (code_set_led1 (.ref l) (E := E) (Q₁ := fun obj s₁ => obj = .ref p ∧ s₁ = { s with heap := s.heap.push (emptyS w) }) ⟨by rw [hp], rfl⟩) fun r s₁ hr => ?_
  cases r with
  | error e => exact hr
  | ok fl =>
    cases fl with
    | ret obj =>
      obtain ⟨rfl, rfl⟩ := hr
      have hS : (s.heap.push (emptyS w)).get? p = some (emptyS w) := by rw [← hp]; exact Heap.get?_push_size _ rfl
      have hT : Shared.TypeIs { s with heap := s.heap.push (emptyS w) } (.ref p) "set" := ⟨_, hS, rfl⟩
      have hli := F.called_set.init.lookup
      have hbi := F.called_set.init.bind (.ref p)
      repeat (any_goals (first | assumption | wp_step))
      refine codeAny_mono (codeAny_call_builtin (R := wants (fun r s₂ => r = .none ∧ ∃ h' tk L es ep t, s₂ = { s with heap := h', toks := tk } ∧ SetTR P w h' p L es ep t ∧ Got ks ks.length L ∧ (∀ b o, s.heap.get? b = some o → h'.get? b = some o)) E) F.called_set.init.plain F.entry_set_init (check_set_init_1 hT ?_)) fun r₂ s₂ hr₂ => ?_
      · obtain ⟨ol, hol, hcl, nl, hdl⟩ := hl
        obtain ⟨ocls, odict, odata, oslots⟩ := ol
        simp only at hcl hdl
        subst hcl; subst hdl
        have hol' : (s.heap.push (emptyS w)).get? l = some { cls := .type "tuple", dict := odict, data := .seq items nl, slots := oslots } := Heap.get?_push_of_some _ hol
        have hsls := F.sub_tuple_set
        have hslf := F.sub_tuple_frozenset
        have hne : (Value.type "tuple" == Value.type "dict") = false := by decide
        have hl1 : (s.heap.push (emptyS w)).IsTuple l items := ⟨_, hol', rfl, nl, rfl⟩
        unfold Builtin.«set.__init__» noKeywords Builtin.Frozenset.updateFrom
        generalize hPI : pyIter = PI
        wp_walk
        subst hPI
        refine wpAny_pyIter_tuple hl1 (wpAny_bind (wpAny_runValue ?_))
        have hlS : l < s.heap.objs.size := Heap.lt_size hol
        have hh3 : A.in1.in1.in1.handled = none := by simp [hh]
        have hz1 : (s.heap.push (emptyS w)).objs.size = p + 1 := by rw [← hp]; exact Heap.size_push ..
        have hlp : l < p := by rw [← hp]; exact hlS
        have hneI : l ≠ (s.heap.push (emptyS w)).objs.size := by rw [hz1]; exact Nat.ne_of_lt (Nat.lt_succ_of_lt hlp)
        have hSf : p ∉ [(s.heap.push (emptyS w)).objs.size, l] := by
          rw [hz1]
          simp only [List.mem_cons, List.not_mem_nil, or_false, not_or]
          exact ⟨Nat.ne_of_lt (Nat.lt_succ_self p), Nat.ne_of_gt hlp⟩
        have hval : ∀ (i : Nat) (v : Value), items[i]? = some v → ∃ q, ks[i]? = some q ∧ v = .ref q.1 := fun i v hv => by
          have q : items.toList[i]? = some v := by rw [Array.getElem?_toList]; exact hv
          rw [hit, List.getElem?_map] at q
          obtain ⟨z, hz, e⟩ := Option.map_eq_some_iff.mp q
          exact ⟨z, hz, e.symm⟩
        have none_of : ∀ b, p ≤ b → s.heap.get? b = none := fun b hb => by
          cases q : s.heap.get? b with
          | none => rfl
          | some o => exact absurd (Nat.lt_of_lt_of_le (Heap.lt_size q) (by rw [hp]; exact hb)) (Nat.lt_irrefl _)
        refine set_update_tups ((Walks.tuple hh3 _ l hneI items).toS) p hSf ks hisz hfew hval s.heap hk (none_of _ (Nat.le_refl _)) (fun b hb => none_of b (by rw [List.mem_singleton.mp hb, hz1]; exact Nat.le_succ _)) hu (items.size - 0) 0 _ (by omega) (Nat.zero_le _)
          ⟨⟨_, Heap.get?_push_size _ rfl, rfl, rfl⟩, (hl1.push _)⟩ (fun b o e => Heap.get?_push_of_some _ (Heap.get?_push_of_some _ e)) ⟨[], #[], 0, _, setTR_fresh (Heap.get?_push_of_some _ hS), Got.zero ks⟩ ?_
        intro s' L es ep t hm hS' g' hkp
        obtain ⟨h', g2, d', tk', os'⟩ := s'
        have eg : g2 = s.gens := hm.gens
        have ed : d' = s.drawn := hm.drawn
        have eo : os' = s.os := hm.os
        subst eg; subst ed; subst eo
        rw [hisz] at g'
        show wpAny _ _ _ _ _ _
        refine wpAny_pure ?_
        show wpAny _ _ (ret Value.none) _ _ _
        exact wpAny_pure ⟨rfl, h', tk', L, es, ep, t, rfl, hS', g', hkp⟩
      · cases r₂ with
        | error e => exact hr₂
        | ok fl₂ =>
          cases fl₂ with
          | ret r =>
            obtain ⟨rfl, h', tk, L, es, ep, t, rfl, hS', g', hk'⟩ := hr₂
            repeat (any_goals (first | assumption | wp_step))
            exact h _ _ _ _ _ _ hS' g' hk'
          | _ => exact hr₂.elim
    | _ => exact hr.elim
end

/-! ### len(set(t)) -/
theorem keys_of {K : PySem.W.Frag} {H : Hp} {A : Ads} : ∀ {xs : List D} {vs : List V}, xs.all pairI = true → Rps K H A xs vs → ∃ ks : List (Addr × List Int), vs = ks.map (fun p => V.ref p.1) ∧ (∀ p ∈ ks, SqT K H p.1 (p.2.map V.int)) ∧ xs = (ks.map (·.2)).map fun k => D.tup (k.map .int)
  | [], vs, _, r => ⟨[], by unfold Rps at r; rw [r]; rfl, fun p hp => by simp at hp, rfl⟩
  | x :: xs, vs, h, r => by
    rw [List.all_cons, Bool.and_eq_true] at h
    obtain ⟨v, w, rfl, r1, r2⟩ := r.inv
    obtain ⟨ks, rfl, h2, rfl⟩ := keys_of h.2 r2
    have hx := h.1
    cases x <;> first | (exfalso; cases hx; done) | skip
    rename_i zs
    cases e : intsD zs with
    | none => unfold pairI at hx; simp only [e] at hx; cases hx
    | some ns =>
      have e2 := ints_of e
      subst e2
      obtain ⟨a, us, rfl, q, r⟩ := r1.tup
      have := rps_of_ints r
      subst this
      refine ⟨(a, ns) :: ks, rfl, fun p hp => ?_, rfl⟩
      rcases List.mem_cons.mp hp with rfl | hp
      · exact q
      · exact h2 p hp
section
variable {X : Cx} {fx : Fx} {W : WX} {pos : Pos}
theorem r_lenset {a : Expr} {as : Es} {p p2 q : Pos} (hc : X.calm = true) (hu : X.A.units + 65 < cLine) (hg : Gl X "len") (hm : X.mg "len" = none) (hg2 : Gl X "set") (hm2 : X.mg "set" = none) (ha : PA X [a] (tEs X.K fx W as)) (na : starEach [a] X.env = (false, eval a X.env) :: starEach [] X.env) :
    PE X (.Call (.Name "len" p) [.Call (.Name "set" p2) [a] [] q] [] pos) (tE X.K fx W (.blt .lenset as)) := by
  refine ⟨fun pins s σ H Q I ⟨env, A, S, hE, hS, h⟩ => ?_⟩
  unfold evE at h
  refine Call_ (ld_blt I hg hm PySem.boot_len ?_)
  refine PyProof.Rows.callWith_builtin1 (PyProof.Rows.args_cons (Call_ (ld_blt I hg2 hm2 boot_set ?_)) rfl) rfl rfl
  refine PyProof.Rows.callWith_type1 (thn (ha.run q pins s σ H _ I ⟨env, A, S, hE, hS, RPs.bind h⟩) fun us s1 ⟨vs, H1, I1, rv, A1, S1, ds, x1, sr1, rd, h1⟩ => ?_) na rfl
  obtain ⟨z, h2, h3⟩ := RP.of h1
  replace h2 : lensetD S1 ds = some z := h2
  unfold lensetD at h2
  split at h2
  · split at h2
    · rename_i d xs e1
      split at h2
      · rename_i hz
        cases h2
        rw [Bool.and_eq_true, decide_eq_true_eq] at hz
        have e2 := view_tup e1
        subst e2
        obtain ⟨v, rfl, rd2⟩ := rps1 rd
        obtain ⟨l, ws, rfl, hq, hr⟩ := rd2.tup
        obtain ⟨ks, rfl, hk, rfl⟩ := keys_of hz.2 hr
        rw [Vals.ref1 rv]
        obtain ⟨its, ri, pl, hzz⟩ := I1.tuple hq
        have hlen : ks.length < 60 := by simpa using hz.1
        refine set_of_tup (P := X.prog) (w := X.w) ks (I1.ok.hd hc) pl (by simpa using refs_of_vals ri) (fun p hp => I1.isT (hk p hp)) (by omega) (by omega) fun h' tk L es ep t R g k => PyProof.Rows.args_nil ?_
        have I2 : Inv X pins σ H1 { s1 with heap := h', toks := tk } := I1.kept k
        obtain ⟨o, ho, hex, hd⟩ := R.ob
        have hsz : es.size = L.length := SetTR.size (s := { s1 with heap := h', toks := tk }) R
        have hcount : L.length = distinct ((ks.map (·.2)).map fun k => D.tup (k.map .int)) := by
          rw [distinct_ints, ← dz_of (ks.map (·.2)) (L.map (·.2)) R.nd (fun z hz => ?_) (fun z hz => ?_), List.length_map]
          · obtain ⟨p, hp, rfl⟩ := List.mem_map.mp hz
            have := g.sub p hp
            rw [List.take_length] at this
            exact List.mem_map_of_mem this
          · obtain ⟨p, hp, rfl⟩ := List.mem_map.mp hz
            exact g.all p (by rw [List.take_length]; exact hp)
        have hfew := R.few
        refine call_len_set ho hex hd (SetTR.fits (s := { s1 with heap := h', toks := tk }) R) (by rw [hsz]; omega) ⟨.int (L.length : Nat), H1, I2.tok _, ⟨_, by rw [hsz]⟩, ?_⟩
        have := h3.here sr1 (rp_int (i := (distinct ((ks.map (·.2)).map fun k => D.tup (k.map .int)) : Nat)))
        rw [← hcount] at this
        exact this
      · cases h2
    · cases h2
  · cases h2
/-- X() -/
theorem pmk_own0 {C : Addr} {bmB : List Value} {B newId initId : String} {x : Str} {p pos : Pos} (F : ExcBaseFacts B newId initId bmB) (q : PySem.W.excIn X.K C bmB newId = true) (gC : X.mg x = some (.ref C)) (kC : PySem.W.keepIn X.K (.ref C) = true) (r : Raises X (.ref C)) (hg : Gl X x)
    (hdb : (x == ("__debug__" : Str)) = false) : PMk X (.Call (.Name x p) [] [] pos) (fun _ H Q => Q (.ref C) none H) := by
  intro pins s σ H Q I h
  refine wpAny_Call_Name_kw (ld_glob I hg gC ?_ hdb)
  refine PySem.W.callWith_K0 I.kIn kC ?_
  show wpAny _ _ (call (.ref C) []) _ _ _
  obtain ⟨bm, N, nm, qn, bs, hdct, sn, sub, ab, col, dd, k0, k1, k2, k3, k5, mN, hC, hN, hni, T⟩ := exc_obj I.kIn q
  exact wpAny_call_exc_subT F T hC hN hni (fun h' e hm => mk_of I hm r h (I.hok.gone hm.new)) (Nat.zero_le _)
end
end Rs
end

section
set_option Elab.async false
set_option linter.all false
set_option maxRecDepth 100000
set_option maxHeartbeats 1000000
set_option autoImplicit false
/-! RsZip: list(zip(a, b)) of two tuples, at the library's level. Own work, after the shape of the library's list of items. -/
namespace Rs
open PySem PySem.W PyProof.Rows
open PySem.Sem (wp)
theorem zip_len_none : typeLookup (.type "zip") "__len__" = pure none := by rw [typeLookup_type, builtinLookup_eq_fast]; kernel_rfl
theorem zip_hint_none : typeLookup (.type "zip") "__length_hint__" = pure none := by rw [typeLookup_type, builtinLookup_eq_fast]; kernel_rfl
section
variable {prog : Program} {w : World} {A : Around} {E : Value → Shared → Prop} {s : Shared}
theorem zipT_item_held {z TI TO T i1 i2 l1 l2 : Addr} {f : Bool} {oT : Obj} {k1 k2 : Nat} {xs ys : Array Value} {x y : Value} {Q : Value → Shared → Prop} (D : ZipApart z TI TO i1 i2 l1 l2)
    (hz : IsZipHeld s.heap z TI TO T f) (hT : s.heap.get? T = some oT) (hTI : IsPair s.heap TI (.ref i1) (.ref i2))
    (h1 : s.heap.IsTupleIter i1 l1 k1) (h2 : s.heap.IsTupleIter i2 l2 k2) (hl1 : s.heap.IsTuple l1 xs) (hl2 : s.heap.IsTuple l2 ys) (hx : xs[k1]? = some x) (hy : ys[k2]? = some y)
    (hQ : ∀ h', IsZipHeld h' z TI TO T true → h'.IsTupleIter i1 l1 (k1 + 1) → h'.IsTupleIter i2 l2 (k2 + 1) → IsPair h' s.heap.objs.size x y → h'.objs.size = s.heap.objs.size + 1 →
      (∀ c o, c ≠ z → c ≠ i1 → c ≠ i2 → s.heap.get? c = some o → h'.get? c = some o) → Q (.ref s.heap.objs.size) { s with heap := h' }) :
    wpAny (model prog w) A (Builtin.«zip.__next__» ⟨[.ref z], []⟩) (fun fin s' => ∃ v, fin = .done (.ret v) ∧ Q v s') E s := by
  show wpAny _ _ (field (.ref z) 2 >>= _) _ _ _
  refine wpAny_bind (wpAny_field hz rfl (x := .bool false) rfl ?_)
  show wpAny _ _ (field (.ref z) 3 >>= _) _ _ _
  refine wpAny_bind (wpAny_field hz rfl (x := .ref TI) rfl ?_)
  refine wpAny_bind (wpAny_seqItems hTI rfl ?_)
  show wpAny _ _ (Builtin.SmallTypes.ownedTupleIsFree (.ref z) >>= _) _ _ _
  refine wpAny_bind (wpAny_tupleHeld_zip hz hT fun h₁ hz₁ hs₁ => ?_)
  simp only [Bool.false_eq_true, if_false]
  refine wpAny_bind ?_
  rw [← Array.forIn_toList]
  simp only [List.forIn_cons, List.forIn_nil]
  refine wpAny_bind (wpAny_bind (wpAny_holding ?_))
  show wpAny _ _ (Builtin.SmallTypes.nextOf (.ref i1) >>= _) _ _ _
  refine wpAny_bind (RZ.nextOf_tuple_item (s := { s with heap := h₁ }) (h1.extBut hs₁.extBut D.i1z) (hl1.extBut hs₁.extBut D.l1z) hx fun h₂ h1₂ hs₂ => wpAny_pure ?_)
  refine wpAny_pure ?_
  refine wpAny_bind (wpAny_bind (wpAny_holding ?_))
  show wpAny _ _ (Builtin.SmallTypes.nextOf (.ref i2) >>= _) _ _ _
  refine wpAny_bind (RZ.nextOf_tuple_item (s := { s with heap := h₂ }) ((h2.extBut hs₁.extBut D.i2z).extBut hs₂.extBut D.i12.symm) ((hl2.extBut hs₁.extBut D.l2z).extBut hs₂.extBut D.l2i1) hy fun h₃ h2₃ hs₃ => wpAny_pure ?_)
  refine wpAny_pure (wpAny_pure ?_)
  show wpAny _ _ (newTuple [x, y] >>= _) _ _ _
  refine wpAny_bind (wpAny_newTuple ?_)
  have hsz : h₃.objs.size = s.heap.objs.size := by rw [hs₃.1, hs₂.1, hs₁.1]
  have hz₃ : IsZipHeld h₃ z TI TO T true := hs₃.extBut _ _ D.i2z.symm (hs₂.extBut _ _ D.i1z.symm hz₁)
  have hk : ∀ c o, c ≠ z → c ≠ i1 → c ≠ i2 → s.heap.get? c = some o → h₃.get? c = some o := fun c o c1 c2 c3 e => hs₃.extBut _ _ c3 (hs₂.extBut _ _ c2 (hs₁.extBut _ _ c1 e))
  have h1₃ : h₃.IsTupleIter i1 l1 (k1 + 1) := h1₂.extBut hs₃.extBut D.i12
  refine wpAny_pure ⟨_, rfl, ?_⟩
  show Q (.ref h₃.objs.size) _
  have hp : IsPair (h₃.push { cls := .type "tuple", data := .seq #[x, y] }) h₃.objs.size x y := Heap.get?_push_size _ rfl
  have hz4 : (h₃.push { cls := .type "tuple", data := .seq #[x, y] }).objs.size = h₃.objs.size + 1 := Heap.size_push ..
  rw [hsz] at hp hz4 ⊢
  exact hQ _ (Heap.get?_push_of_some _ hz₃) (h1₃.at fun o e => Heap.get?_push_of_some _ e) (h2₃.at fun o e => Heap.get?_push_of_some _ e) hp hz4 fun c o c1 c2 c3 e => Heap.get?_push_of_some _ (hk c o c1 c2 c3 e)
theorem zipT_end_held {z TI TO T i1 i2 l1 l2 : Addr} {f : Bool} {oT : Obj} {k1 k2 : Nat} {xs ys : Array Value} {Q : Fin → Shared → Prop} (hh : A.handled = none) (D : ZipApart z TI TO i1 i2 l1 l2)
    (hz : IsZipHeld s.heap z TI TO T f) (hT : s.heap.get? T = some oT) (hTI : IsPair s.heap TI (.ref i1) (.ref i2))
    (h1 : s.heap.IsTupleIter i1 l1 k1) (h2 : s.heap.IsTupleIter i2 l2 k2) (hl1 : s.heap.IsTuple l1 xs) (hl2 : s.heap.IsTuple l2 ys) (hend : xs[k1]? = none ∨ ys[k2]? = none)
    (hE : ∀ h' e, (∀ c o, c ≠ z → c ≠ i1 → c ≠ i2 → s.heap.get? c = some o → h'.get? c = some o) → (∃ o, h'.get? e = some o ∧ o.cls = .type "StopIteration") → E (.ref e) { s with heap := h' }) :
    wpAny (model prog w) A (Builtin.«zip.__next__» ⟨[.ref z], []⟩) Q E s := by
  show wpAny _ _ (field (.ref z) 2 >>= _) _ _ _
  refine wpAny_bind (wpAny_field hz rfl (x := .bool false) rfl ?_)
  show wpAny _ _ (field (.ref z) 3 >>= _) _ _ _
  refine wpAny_bind (wpAny_field hz rfl (x := .ref TI) rfl ?_)
  refine wpAny_bind (wpAny_seqItems hTI rfl ?_)
  show wpAny _ _ (Builtin.SmallTypes.ownedTupleIsFree (.ref z) >>= _) _ _ _
  refine wpAny_bind (wpAny_tupleHeld_zip hz hT fun h₁ hz₁ hs₁ => ?_)
  simp only [Bool.false_eq_true, if_false]
  refine wpAny_bind ?_
  rw [← Array.forIn_toList]
  simp only [List.forIn_cons, List.forIn_nil]
  refine wpAny_bind (wpAny_bind (wpAny_holding ?_))
  show wpAny _ _ (Builtin.SmallTypes.nextOf (.ref i1) >>= _) _ _ _
  cases hx : xs[k1]? with
  | none =>
    refine wpAny_bind (RZ.nextOf_tuple_end (s := { s with heap := h₁ }) hh (h1.extBut hs₁.extBut D.i1z) (hl1.extBut hs₁.extBut D.l1z) hx fun h₂ e hs₂ he => ?_)
    exact hE h₂ e (fun c o c1 c2 _ x => hs₂ _ _ c2 (hs₁.extBut _ _ c1 x)) he
  | some x =>
    have hy : ys[k2]? = none := by rcases hend with h | h; rw [hx] at h; cases h; exact h
    refine wpAny_bind (RZ.nextOf_tuple_item (s := { s with heap := h₁ }) (h1.extBut hs₁.extBut D.i1z) (hl1.extBut hs₁.extBut D.l1z) hx fun h₂ h1₂ hs₂ => wpAny_pure ?_)
    refine wpAny_pure ?_
    refine wpAny_bind (wpAny_bind (wpAny_holding ?_))
    show wpAny _ _ (Builtin.SmallTypes.nextOf (.ref i2) >>= _) _ _ _
    refine wpAny_bind (RZ.nextOf_tuple_end (s := { s with heap := h₂ }) hh ((h2.extBut hs₁.extBut D.i2z).extBut hs₂.extBut D.i12.symm) ((hl2.extBut hs₁.extBut D.l2z).extBut hs₂.extBut D.l2i1) hy fun h₃ e hs₃ he => ?_)
    exact hE h₃ e (fun c o c1 c2 c3 x => hs₃ _ _ c3 (hs₂.extBut _ _ c2 (hs₁.extBut _ _ c1 x))) he
theorem pyNext_zipT_held {z TI TO T i1 i2 l1 l2 : Addr} {f : Bool} {oT : Obj} {k1 k2 : Nat} {xs ys : Array Value} {x y : Value} {Q : Option Value → Shared → Prop} (D : ZipApart z TI TO i1 i2 l1 l2)
    (hz : IsZipHeld s.heap z TI TO T f) (hT : s.heap.get? T = some oT) (hTI : IsPair s.heap TI (.ref i1) (.ref i2))
    (h1 : s.heap.IsTupleIter i1 l1 k1) (h2 : s.heap.IsTupleIter i2 l2 k2) (hl1 : s.heap.IsTuple l1 xs) (hl2 : s.heap.IsTuple l2 ys) (hx : xs[k1]? = some x) (hy : ys[k2]? = some y)
    (hQ : ∀ h', IsZipHeld h' z TI TO T true → h'.IsTupleIter i1 l1 (k1 + 1) → h'.IsTupleIter i2 l2 (k2 + 1) → IsPair h' s.heap.objs.size x y → h'.objs.size = s.heap.objs.size + 1 →
      (∀ c o, c ≠ z → c ≠ i1 → c ≠ i2 → s.heap.get? c = some o → h'.get? c = some o) → Q (some (.ref s.heap.objs.size)) { s with heap := h' }) :
    wpAny (model prog w) A (pyNext (.ref z)) Q E s := by
  have hTy : s.TypeIs (.ref z) "zip" := ⟨_, hz, rfl⟩
  unfold pyNext
  exact wpAny_bind (wpAny_attempt (wpAny_callSpecial?_slot (name := Str.ofString "__next__") hTy PySem.F.slot_zip_next
    (wpAny_call_entry PySem.F.slot_zip_next hTy PySem.F.entry_zip_next
      (zipT_item_held D hz hT hTI h1 h2 hl1 hl2 hx hy fun h' a1 a3 a4 a5 a6 a7 => wpAny_pure (hQ h' a1 a3 a4 a5 a6 a7)) (PySem.F.args_zip_next_1 _))))
theorem pyNext_zipT_held_end {z TI TO T i1 i2 l1 l2 : Addr} {f : Bool} {oT : Obj} {k1 k2 : Nat} {xs ys : Array Value} {Q : Option Value → Shared → Prop} (hh : A.handled = none) (D : ZipApart z TI TO i1 i2 l1 l2)
    (hz : IsZipHeld s.heap z TI TO T f) (hT : s.heap.get? T = some oT) (hTI : IsPair s.heap TI (.ref i1) (.ref i2))
    (h1 : s.heap.IsTupleIter i1 l1 k1) (h2 : s.heap.IsTupleIter i2 l2 k2) (hl1 : s.heap.IsTuple l1 xs) (hl2 : s.heap.IsTuple l2 ys) (hend : xs[k1]? = none ∨ ys[k2]? = none)
    (hQ : ∀ h', (∀ c o, c ≠ z → c ≠ i1 → c ≠ i2 → s.heap.get? c = some o → h'.get? c = some o) → Q none { s with heap := h' }) : wpAny (model prog w) A (pyNext (.ref z)) Q E s := by
  have hTy : s.TypeIs (.ref z) "zip" := ⟨_, hz, rfl⟩
  unfold pyNext
  refine wpAny_bind (wpAny_attempt (wpAny_callSpecial?_slot (name := Str.ofString "__next__") hTy PySem.F.slot_zip_next
    (wpAny_call_entry PySem.F.slot_zip_next hTy PySem.F.entry_zip_next (zipT_end_held hh D hz hT hTI h1 h2 hl1 hl2 hend fun h' e hk he => ?_) (PySem.F.args_zip_next_1 _))))
  obtain ⟨o, ho, hc⟩ := he
  refine wpAny_bind (wpAny_isInstance (T := "StopIteration") (b := true) ⟨o, ho, hc⟩ isSubtype_stop ?_)
  exact wpAny_pure (hQ _ hk)
/-- where a zip stands while its pairs are kept -/
def ZSt (h : Heap) (z TI TO S : Addr) (i : Nat) : Prop := (i = 0 ∧ IsZip h z TI TO .none ∧ ∃ a b, IsPair h TO a b) ∨ ∃ T f oT, IsZipHeld h z TI TO T f ∧ h.get? T = some oT ∧ S < T
structure ZLow (S z TI TO i1 i2 l1 l2 : Addr) : Prop where
  z : z < S
  TI : TI < S
  TO : TO < S
  i1 : i1 < S
  i2 : i2 < S
  l1 : l1 < S
  l2 : l2 < S
theorem zl_item {S z TI TO i1 i2 l1 l2 : Addr} {i : Nat} {xs ys : Array Value} {x y : Value} {Q : Option Value → Shared → Prop} (D : ZipApart z TI TO i1 i2 l1 l2) (L : ZLow S z TI TO i1 i2 l1 l2)
    (hst : ZSt s.heap z TI TO S i) (hS : S < s.heap.objs.size) (hTI : IsPair s.heap TI (.ref i1) (.ref i2))
    (h1 : s.heap.IsTupleIter i1 l1 i) (h2 : s.heap.IsTupleIter i2 l2 i) (hl1 : s.heap.IsTuple l1 xs) (hl2 : s.heap.IsTuple l2 ys) (hx : xs[i]? = some x) (hy : ys[i]? = some y)
    (hQ : ∀ h', ZSt h' z TI TO S (i + 1) → h'.IsTupleIter i1 l1 (i + 1) → h'.IsTupleIter i2 l2 (i + 1) → IsPair h' s.heap.objs.size x y → h'.objs.size = s.heap.objs.size + 1 →
      (∀ c o, c ≠ z → c ≠ TO → c ≠ i1 → c ≠ i2 → s.heap.get? c = some o → h'.get? c = some o) → Q (some (.ref s.heap.objs.size)) { s with heap := h' }) :
    wpAny (model prog w) A (pyNext (.ref z)) Q E s := by
  rcases hst with ⟨rfl, hz, a, b, hTO⟩ | ⟨T, f, oT, hz, hT, hST⟩
  · exact RZ.pyNext_zipT_item D hz hTI hTO h1 h2 hl1 hl2 hx hy fun h' a1 a2 a3 a4 a5 a6 a7 => hQ h' (.inr ⟨s.heap.objs.size, false, _, a1, a5, hS⟩) a3 a4 a5 a6 a7
  · exact pyNext_zipT_held D hz hT hTI h1 h2 hl1 hl2 hx hy fun h' a1 a2 a3 a4 a5 a6 => hQ h' (.inr ⟨T, true, oT, a1, a6 T oT (Nat.ne_of_gt (Nat.lt_trans L.z hST)) (Nat.ne_of_gt (Nat.lt_trans L.i1 hST)) (Nat.ne_of_gt (Nat.lt_trans L.i2 hST)) hT, hST⟩) a2 a3 a4 a5 fun c o c1 _ c3 c4 e => a6 c o c1 c3 c4 e
theorem zl_done {S z TI TO i1 i2 l1 l2 : Addr} {i : Nat} {xs ys : Array Value} {Q : Option Value → Shared → Prop} (hh : A.handled = none) (D : ZipApart z TI TO i1 i2 l1 l2)
    (hst : ZSt s.heap z TI TO S i) (hTI : IsPair s.heap TI (.ref i1) (.ref i2))
    (h1 : s.heap.IsTupleIter i1 l1 i) (h2 : s.heap.IsTupleIter i2 l2 i) (hl1 : s.heap.IsTuple l1 xs) (hl2 : s.heap.IsTuple l2 ys) (hend : xs[i]? = none ∨ ys[i]? = none)
    (hQ : ∀ h', (∀ c o, c ≠ z → c ≠ TO → c ≠ i1 → c ≠ i2 → s.heap.get? c = some o → h'.get? c = some o) → Q none { s with heap := h' }) : wpAny (model prog w) A (pyNext (.ref z)) Q E s := by
  rcases hst with ⟨rfl, hz, a, b, hTO⟩ | ⟨T, f, oT, hz, hT, hST⟩
  · exact RZ.pyNext_zipT_end hh D hz hTI hTO h1 h2 hl1 hl2 hend hQ
  · exact pyNext_zipT_held_end hh D hz hT hTI h1 h2 hl1 hl2 hend fun h' a => hQ h' fun c o c1 _ c3 c4 e => a c o c1 c3 c4 e
structure ZG (xs ys : Array Value) (lo : Addr) (h : Heap) (as : List Addr) : Prop where
  rise : as.Pairwise (· < ·)
  above : ∀ a ∈ as, lo < a
  pairs : ∀ (j : Nat) (a : Addr), as[j]? = some a → ∃ x y, xs[j]? = some x ∧ ys[j]? = some y ∧ IsPair h a x y
theorem ZG.there {xs ys : Array Value} {lo : Addr} {h : Heap} {as : List Addr} (g : ZG xs ys lo h as) {a : Addr} (ha : a ∈ as) : a < h.objs.size := by
  obtain ⟨j, hj⟩ := List.mem_iff_getElem?.mp ha
  obtain ⟨_, _, _, _, e⟩ := g.pairs j a hj
  exact Heap.lt_size e
end
section
variable {prog : Program} {w : World} {A : Around} {E : Value → Shared → Prop} {s : Shared} {R : Result → Shared → Prop}
theorem zl_loop {S z TI TO i1 i2 l1 l2 : Addr} {xs ys : Array Value} (hh : A.handled = none) (D : ZipApart z TI TO i1 i2 l1 l2) (L : ZLow S z TI TO i1 i2 l1 l2) (n : Nat) (hn : n ≤ sizeLine)
    (hnx : ∀ i, i < n → ∃ x y, xs[i]? = some x ∧ ys[i]? = some y) (hend : xs[n]? = none ∨ ys[n]? = none) (res : Value) {h₁ : Heap}
    (hl1 : h₁.IsTuple l1 xs) (hl2 : h₁.IsTuple l2 ys) (hTI : IsPair h₁ TI (.ref i1) (.ref i2))
    (hR : ∀ h' tk acc c as, (∀ b o, b ≠ S → b ≠ z → b ≠ TO → b ≠ i1 → b ≠ i2 → h₁.get? b = some o → h'.get? b = some o) → h'.get? S = some { cls := .type "list", dict := none, data := .seq acc c, slots := #[] } → as.length = n → ZG xs ys S h' as →
      acc.toList = as.map Value.ref → R (.ok (.ret res)) { s with heap := h', toks := tk }) :
    ∀ (k i : Nat) (h : Heap) (tk c : Nat) (acc : Array Value) (as : List Addr), n - i = k → i ≤ n → ZSt h z TI TO S i → h.IsTupleIter i1 l1 i → h.IsTupleIter i2 l2 i → (∀ b o, b ≠ S → b ≠ z → b ≠ TO → b ≠ i1 → b ≠ i2 → h₁.get? b = some o → h.get? b = some o) →
      h.get? S = some { cls := .type "list", dict := none, data := .seq acc c, slots := #[] } → acc.toList = as.map Value.ref → as.length = i → ZG xs ys S h as →
      codeAny (model prog w) A (.builtin "list.extend.loop" ⟨[.ref S, .ref z, res], []⟩) R { s with heap := h, toks := tk } := by
  have nz : S ≠ z := Nat.ne_of_gt L.z
  have nO : S ≠ TO := Nat.ne_of_gt L.TO
  have n1 : S ≠ i1 := Nat.ne_of_gt L.i1
  have n2 : S ≠ i2 := Nat.ne_of_gt L.i2
  intro k
  induction k with
  | zero =>
    intro i h tk c acc as hk hi hst h1 h2 hkeep hS hacc hal hG
    have hin : i = n := by omega
    subst hin
    have hl1' : h.IsTuple l1 xs := hl1.at fun o e => hkeep l1 o (Nat.ne_of_lt L.l1) D.l1z D.l1TO D.l1i1 D.l1i2 e
    have hl2' : h.IsTuple l2 ys := hl2.at fun o e => hkeep l2 o (Nat.ne_of_lt L.l2) D.l2z D.l2TO D.l2i1 D.l2i2 e
    have hTI' : IsPair h TI (.ref i1) (.ref i2) := hkeep TI _ (Nat.ne_of_lt L.TI) D.TIz D.TITO D.TIi1 D.TIi2 hTI
    refine codeAny_builtin PySem.F.entry_extend_loop ?_
    rw [Around.under_plainId PySem.F.plain_extend_loop _]
    show wpAny _ A.in1 (pyNext (.ref z) >>= _) _ _ _
    refine wpAny_bind (zl_done (s := { s with heap := h, toks := tk }) (A := A.in1) hh D hst hTI' h1 h2 hl1' hl2' hend fun h' he => ?_)
    refine wpAny_pure (hR h' tk acc c as (fun b o b0 b1 b2 b3 b4 e => he b o b1 b2 b3 b4 (hkeep b o b0 b1 b2 b3 b4 e)) (he S _ nz nO n1 n2 hS) hal ⟨hG.rise, hG.above, fun j a hj => ?_⟩ hacc)
    obtain ⟨x, y, e1, e2, e3⟩ := hG.pairs j a hj
    have ha := hG.above a (List.mem_of_getElem? hj)
    exact ⟨x, y, e1, e2, he a _ (Nat.ne_of_gt (Nat.lt_trans L.z ha)) (Nat.ne_of_gt (Nat.lt_trans L.TO ha)) (Nat.ne_of_gt (Nat.lt_trans L.i1 ha)) (Nat.ne_of_gt (Nat.lt_trans L.i2 ha)) e3⟩
  | succ k ih =>
    intro i h tk c acc as hk hi hst h1 h2 hkeep hS hacc hal hG
    have hlt : i < n := by omega
    obtain ⟨x, y, hx, hy⟩ := hnx i hlt
    have hsz : acc.size = i := by rw [← Array.length_toList, hacc, List.length_map, hal]
    have hl1' : h.IsTuple l1 xs := hl1.at fun o e => hkeep l1 o (Nat.ne_of_lt L.l1) D.l1z D.l1TO D.l1i1 D.l1i2 e
    have hl2' : h.IsTuple l2 ys := hl2.at fun o e => hkeep l2 o (Nat.ne_of_lt L.l2) D.l2z D.l2TO D.l2i1 D.l2i2 e
    have hTI' : IsPair h TI (.ref i1) (.ref i2) := hkeep TI _ (Nat.ne_of_lt L.TI) D.TIz D.TITO D.TIi1 D.TIi2 hTI
    refine codeAny_builtin PySem.F.entry_extend_loop ?_
    rw [Around.under_plainId PySem.F.plain_extend_loop _]
    show wpAny _ A.in1 (pyNext (.ref z) >>= _) _ _ _
    have hSl : S < h.objs.size := Heap.lt_size hS
    refine wpAny_bind (zl_item (s := { s with heap := h, toks := tk }) D L hst hSl hTI' h1 h2 hl1' hl2' hx hy fun h' hst' h1' h2' ht hz hkp => ?_)
    dsimp only at ht hz hkp ⊢
    have hS' := hkp S _ nz nO n1 n2 hS
    have up : ∀ b o, b ≠ S → h'.get? b = some o → (h'.update S (Obj.mapSeq (·.push (Value.ref h.objs.size)))).get? b = some o := fun b o hb e => (Heap.get?_update_other _ _ (Ne.symm hb)).trans e
    show wpAny _ A.in1 (updateSeq S (·.push (Value.ref h.objs.size)) >>= _) _ _ _
    refine wpAny_bind ?_
    refine wpAny_updateSeq hS' rfl (wpAny_pure ⟨plainId_quiet PySem.F.plain_extend_loop _, ih (i + 1) _ tk _ (acc.push (Value.ref h.objs.size)) (as ++ [h.objs.size]) (by omega) hlt ?_ (h1'.at fun o e => up _ o (Ne.symm n1) e) (h2'.at fun o e => up _ o (Ne.symm n2) e)
      (fun b o b0 b1 b2 b3 b4 e => up b o b0 (hkp b o b1 b2 b3 b4 (hkeep b o b0 b1 b2 b3 b4 e))) (Heap.get?_update_self _ hS' rfl) (by rw [Array.toList_push, hacc, List.map_append]; rfl) (by rw [List.length_append, hal]; rfl) ⟨?_, ?_, ?_⟩⟩) (by rw [hsz]; omega) (by show (acc.push (Value.ref h.objs.size)).size ≤ sizeLine + 1; rw [Array.size_push, hsz]; omega)
    · rcases hst' with ⟨e, _⟩ | ⟨T, f, oT, a1, a2, a3⟩
      · omega
      · exact .inr ⟨T, f, oT, up _ _ (Ne.symm nz) a1, up _ _ (Nat.ne_of_gt a3) a2, a3⟩
    · refine List.pairwise_append.mpr ⟨hG.rise, List.pairwise_singleton _ _, fun a ha b hb => ?_⟩
      rw [List.mem_singleton.mp hb]
      exact hG.there ha
    · intro a ha
      rcases List.mem_append.mp ha with ha | ha
      · exact hG.above a ha
      · rw [List.mem_singleton.mp ha]; exact hSl
    · intro j b hj
      rcases Nat.lt_trichotomy j as.length with q1 | q1 | q1
      · rw [List.getElem?_append_left q1] at hj
        obtain ⟨x', y', e1, e2, e3⟩ := hG.pairs j b hj
        have hb := hG.above b (List.mem_of_getElem? hj)
        exact ⟨x', y', e1, e2, up b _ (Nat.ne_of_gt hb) (hkp b _ (Nat.ne_of_gt (Nat.lt_trans L.z hb)) (Nat.ne_of_gt (Nat.lt_trans L.TO hb)) (Nat.ne_of_gt (Nat.lt_trans L.i1 hb)) (Nat.ne_of_gt (Nat.lt_trans L.i2 hb)) e3)⟩
      · subst q1
        have hb : h.objs.size = b := by simpa using hj
        subst hb
        exact ⟨x, y, by rw [hal]; exact hx, by rw [hal]; exact hy, up _ _ (Nat.ne_of_gt hSl) ht⟩
      · have hnone : (as ++ [h.objs.size])[j]? = none := List.getElem?_eq_none (by rw [List.length_append, List.length_singleton]; omega)
        rw [hnone] at hj; cases hj
theorem zl_hint {z : Addr} (hT : s.TypeIs (.ref z) "zip") {Q : Bool → Shared → Prop} (h : Q true s) : wpAny (model prog w) A (Builtin.List.listLengthHint (.ref z)) Q E s := by
  unfold Builtin.List.listLengthHint
  refine wpAny_bind (wpAny_specialOf hT zip_len_none ?_)
  show wpAny _ A (specialOf (Value.ref z) (Str.ofString "__length_hint__") >>= _) _ _ _
  refine wpAny_bind (wpAny_specialOf hT zip_hint_none ?_)
  exact wpAny_pure h
theorem zl_extend {S z TI TO i1 i2 l1 l2 : Addr} {xs ys : Array Value} (hh : A.handled = none) (D : ZipApart z TI TO i1 i2 l1 l2) (L : ZLow S z TI TO i1 i2 l1 l2) (n : Nat) (hn : n ≤ sizeLine)
    (hnx : ∀ i, i < n → ∃ x y, xs[i]? = some x ∧ ys[i]? = some y) (hend : xs[n]? = none ∨ ys[n]? = none) (res : Value) (c₀ : Nat)
    (hz : IsZip s.heap z TI TO .none) {a b : Value} (hTO : IsPair s.heap TO a b) (hl1 : s.heap.IsTuple l1 xs) (hl2 : s.heap.IsTuple l2 ys) (hTI : IsPair s.heap TI (.ref i1) (.ref i2)) (h1 : s.heap.IsTupleIter i1 l1 0) (h2 : s.heap.IsTupleIter i2 l2 0)
    (hS : s.heap.get? S = some { cls := .type "list", data := .seq #[] c₀ })
    (hR : ∀ h' tk acc c as, (∀ b o, b ≠ S → b ≠ z → b ≠ TO → b ≠ i1 → b ≠ i2 → s.heap.get? b = some o → h'.get? b = some o) → h'.get? S = some { cls := .type "list", dict := none, data := .seq acc c, slots := #[] } → as.length = n → ZG xs ys S h' as →
      acc.toList = as.map Value.ref → R (.ok (.ret res)) { s with heap := h', toks := tk }) :
    wpAny (model prog w) A.in1 (Builtin.List.listExtendWith (.ref S) (.ref z) res)
      (fun fin s' => match fin with | .done f => R (.ok f) s' | .again c' => c'.quiet = true ∧ codeAny (model prog w) A c' R s') (fun e s' => R (.error e) s') s := by
  have nz : S ≠ z := Nat.ne_of_gt L.z
  have hT : s.TypeIs (.ref z) "zip" := ⟨_, hz, rfl⟩
  have key : ∀ (h : Heap) (c₁ tk : Nat), (∀ b o, b ≠ S → s.heap.get? b = some o → h.get? b = some o) →
      h.get? S = some { cls := .type "list", data := .seq #[] c₁ } → codeAny (model prog w) A (.builtin "list.extend.loop" ⟨[.ref S, .ref z, res], []⟩) R { s with heap := h, toks := tk } := by
    intro h c₁ tk hk hS₁
    exact zl_loop (s := s) (h₁ := s.heap) hh D L n hn hnx hend res hl1 hl2 hTI hR n 0 h tk c₁ #[] [] (Nat.sub_zero _) (Nat.zero_le _)
      (.inl ⟨rfl, hk _ _ (Nat.ne_of_lt L.z) hz, a, b, hk _ _ (Nat.ne_of_lt L.TO) hTO⟩) (h1.at fun o e => hk _ o (Nat.ne_of_lt L.i1) e) (h2.at fun o e => hk _ o (Nat.ne_of_lt L.i2) e) (fun b o b0 _ _ _ _ e => hk b o b0 e) hS₁ rfl rfl
      ⟨List.Pairwise.nil, (fun _ ha => nomatch ha), (fun j a hj => by simp at hj)⟩
  unfold Builtin.List.listExtendWith
  refine wpAny_bind (wpAny_typeOf (T := "zip") hT ?_)
  have q1 : Builtin.List.listSameRef (.ref S) (.ref z) = false := by simp [Builtin.List.listSameRef, nz]
  have q2 : (Value.type "zip" == Value.type "list") = false := by decide
  have q3 : (Value.type "zip" == Value.type "tuple") = false := by decide
  simp only [q1, q2, q3, Bool.or_false, Bool.false_eq_true, if_false]
  refine wpAny_bind (wpAny_pyIter_zip hz ?_)
  refine wpAny_bind (wpAny_holding (zl_hint hT ?_))
  refine wpAny_ite_split (fun _ => ?_) (fun _ => wpAny_pure ⟨plainId_quiet PySem.F.plain_extend_loop _, key _ c₀ _ (fun b o _ e => e) hS⟩)
  refine wpAny_bind (wpAny_rule ?_)
  refine wpAny_bind ?_
  show wpAny _ _ (updateSeq S (·.push .none) >>= fun _ => updateSeq S (·.pop)) _ _ _
  refine wpAny_bind (wpAny_updateSeq hS rfl ?_)
  have hS₂ := Heap.get?_update_self (Obj.mapSeq (·.push Value.none)) hS rfl
  refine wpAny_updateSeq (hz := by seq_fits) hS₂ rfl ?_
  have hS₃ := Heap.get?_update_self (Obj.mapSeq (·.pop)) hS₂ rfl
  refine wpAny_pure ⟨plainId_quiet PySem.F.plain_extend_loop _, key _ _ _ (fun b o hb e => ?_) hS₃⟩
  exact (Heap.get?_update_other _ _ (Ne.symm hb)).trans ((Heap.get?_update_other _ _ (Ne.symm hb)).trans e)
theorem zl_call {z TI TO i1 i2 l1 l2 : Addr} {xs ys : Array Value} {Q : Value → Shared → Prop} (hh : A.handled = none) (D : ZipApart z TI TO i1 i2 l1 l2) (L : ZLow s.heap.objs.size z TI TO i1 i2 l1 l2) (n : Nat) (hn : n ≤ sizeLine)
    (hnx : ∀ i, i < n → ∃ x y, xs[i]? = some x ∧ ys[i]? = some y) (hend : xs[n]? = none ∨ ys[n]? = none)
    (hz : IsZip s.heap z TI TO .none) {a b : Value} (hTO : IsPair s.heap TO a b) (hl1 : s.heap.IsTuple l1 xs) (hl2 : s.heap.IsTuple l2 ys) (hTI : IsPair s.heap TI (.ref i1) (.ref i2)) (h1 : s.heap.IsTupleIter i1 l1 0) (h2 : s.heap.IsTupleIter i2 l2 0)
    (hQ : ∀ h' tk acc c as, (∀ b o, b ≠ z → b ≠ TO → b ≠ i1 → b ≠ i2 → s.heap.get? b = some o → h'.get? b = some o) → h'.get? s.heap.objs.size = some { cls := .type "list", dict := none, data := .seq acc c, slots := #[] } → as.length = n → ZG xs ys s.heap.objs.size h' as →
      acc.toList = as.map Value.ref → Q (.ref s.heap.objs.size) { s with heap := h', toks := tk }) :
    wpAny (model prog w) A (call (.type "list") [.ref z]) Q E s := by
  refine callType_codes (Q₁ := fun obj s₁ => obj = .ref s.heap.objs.size ∧ s₁ = { s with heap := s.heap.push { cls := .type "list", data := .seq #[] } }) PySem.F.called_list (PySem.F.typeCall_list_1 _) PySem.F.entry_list_init
    (code_list_new _ ⟨rfl, rfl⟩) fun obj s₁ h₁ => ?_
  obtain ⟨rfl, rfl⟩ := h₁
  have hS : (s.heap.push { cls := .type "list", data := .seq #[] }).get? s.heap.objs.size = some { cls := .type "list", data := .seq #[] } := Heap.get?_push_size _ rfl
  have pu : ∀ b o, s.heap.get? b = some o → (s.heap.push { cls := .type "list", data := .seq #[] }).get? b = some o := fun b o e => Heap.get?_push_of_some _ e
  refine ⟨⟨_, hS, rfl⟩, PySem.F.args_list_init_2 _ _, ?_⟩
  show wpAny _ _ (do let old ← Builtin.List.listItems (.ref s.heap.objs.size); Builtin.List.listUpdate (.ref s.heap.objs.size) (fun _ => #[]); letGo old.toList.reverse; Builtin.List.listExtendWith (.ref s.heap.objs.size) (.ref z) .none) _ _ _
  refine wpAny_bind ?_
  unfold Builtin.List.listItems
  refine wpAny_bind (wpAny_seqItems hS rfl (wpAny_pure ?_))
  show wpAny _ _ (updateSeq s.heap.objs.size (fun _ => #[]) >>= fun _ => letGo (#[] : Array Value).toList.reverse >>= fun _ => Builtin.List.listExtendWith (.ref s.heap.objs.size) (.ref z) .none) _ _ _
  refine wpAny_bind (wpAny_updateSeq hS rfl ?_)
  have hS₂ := Heap.get?_update_self (Obj.mapSeq (fun _ => (#[] : Array Value))) hS rfl
  have oth : ∀ b o, b ≠ s.heap.objs.size → s.heap.get? b = some o → ((s.heap.push { cls := .type "list", data := .seq #[] }).update s.heap.objs.size (Obj.mapSeq (fun _ => (#[] : Array Value)))).get? b = some o :=
    fun b o hb e => (Heap.get?_update_other _ _ (Ne.symm hb)).trans (pu b o e)
  refine wpAny_bind (wpAny_letGo ?_)
  refine zl_extend (A := A.in1) hh D L n hn hnx hend .none _ (oth _ _ (Nat.ne_of_lt L.z) hz) (oth _ _ (Nat.ne_of_lt L.TO) hTO) (hl1.at fun o e => oth _ o (Nat.ne_of_lt L.l1) e) (hl2.at fun o e => oth _ o (Nat.ne_of_lt L.l2) e) (oth _ _ (Nat.ne_of_lt L.TI) hTI) (h1.at fun o e => oth _ o (Nat.ne_of_lt L.i1) e) (h2.at fun o e => oth _ o (Nat.ne_of_lt L.i2) e) hS₂ (fun h' tk acc c as hk hS' hl hG hacc => ?_)
  exact ⟨rfl, hQ h' tk acc c as (fun b o b1 b2 b3 b4 e => hk b o (Nat.ne_of_lt (Heap.lt_size e)) b1 b2 b3 b4 (oth b o (Nat.ne_of_lt (Heap.lt_size e)) e)) hS' hl hG hacc⟩
end
end Rs
end

section
set_option Elab.async false
set_option linter.all false
set_option maxRecDepth 100000
set_option maxHeartbeats 1000000
set_option autoImplicit false
/-! RsLzip: list(zip(a, b)) of two tuples. Own work over HandS. -/
namespace Rs
open PySem PySem.Spec PyProof.Rows L2
section
variable {K : PySem.W.Frag} {H H' : Hp} {A : Ads} {S : Store}
/-- many new objects at once -/
theorem ext_many (hs : SR K H A S) (h : ∀ b, H b ≠ none → H' b = H b) : Ext A H A H' where
  rd := fun a u _ r => by
    have e := h a (rd_ne r)
    rcases r with r | ⟨o, r⟩
    · exact .inl (by rw [e]; exact r)
    · exact .inr ⟨o, by rw [e]; exact r⟩
  ls := fun a u _ r => by rw [h a (by rw [r]; exact fun z => nomatch z)]; exact r
  pre := fun _ _ b e => ⟨b, e⟩
  new := fun _ e => .inl e
  own := rfl
  ow := fun a e => h a (hs.live (.inr e))
theorem sr_many (hs : SR K H A S) (h : ∀ b, H b ≠ none → H' b = H b) : SR K H' A S := hs.mono (ext_many hs h) fun a ha => h a (hs.live ha)
end
section
variable {X : Cx} {pins : List (Addr × Obj)} {σ : L2.St} {H H' : Hp} {s : Shared} {h' : Heap}
theorem inv_many {t' : Nat} {ch : List Addr} (I : Inv X pins σ H s) (k : ∀ b o, b ∉ ch → s.heap.get? b = some o → h'.get? b = some o) (hf : ∀ b ∈ ch, FpOk X pins H b)
    (hH : ∀ b, b < s.heap.objs.size → H' b = H b) (new : ∀ b u, s.heap.objs.size ≤ b → H' b = some u → ObjOk X.prog X.w H' h' b u) : Inv X pins σ H' { s with heap := h', toks := t' } := by
  have nit : ∀ b u, H b = some u → b ∉ ch := fun b u e z => by
    have q := (hf b z).1
    rw [q] at e; cases e
  have old : ∀ b u, H b = some u → H' b = some u := fun b u e => by rw [hH b (ObjOk.lt (I.hok b u e))]; exact e
  refine I.step (g' := s.gens) (d' := s.drawn) (ch := ch) (fun b hb => ⟨(hf b hb).2.2.2.1, (hf b hb).2.1, (hf b hb).2.2.2.2.1, (hf b hb).2.2.2.2.2⟩) (fun b o _ _ hc e _ => k b o hc e) (fun b o _ _ hc e _ => ⟨o.slots, k b o hc e⟩)
    (fun b o _ e n => ?_) (fun b o hc e => ⟨o, k b o hc e⟩) (fun b xs e => old b _ e) (fun b o u e => old b _ e) (fun b ps e => ⟨#[], ?_⟩) (fun m hm => ?_) (fun b u e => ?_) I.bare
  · rw [hH b (Heap.lt_size e)]; exact n
  · rw [old b _ e]; simp
  · obtain ⟨o, es, ep, ho, r⟩ := hm
    exact ⟨o, es, ep, k _ o (fun z => (hf _ z).2.1 rfl) ho, r⟩
  · by_cases hb : b < s.heap.objs.size
    · rw [hH b hb] at e
      refine (I.hok b u e).stay (fun c v hc q => k c v ?_ q) (fun c q => old c _ q) fun c xs q => old c _ q
      rcases hc with z | z
      · rw [z]; exact nit b u e
      · exact nit c _ z
    · exact new b u (Nat.le_of_not_lt hb) e
end
/-- the pairs, each at its address -/
def layP : List Addr → List (V × V) → Hp → Hp
  | a :: as, p :: ps, H => layP as ps (upd H a (.tup [p.1, p.2]))
  | _, _, H => H
theorem layP_out : ∀ (as : List Addr) (ps : List (V × V)) (H : Hp) (b : Addr), b ∉ as → layP as ps H b = H b
  | [], _, _, _, _ => by unfold layP; rfl
  | _ :: _, [], _, _, _ => by unfold layP; rfl
  | a :: as, p :: ps, H, b, h => by
    unfold layP
    rw [layP_out as ps _ b fun z => h (List.mem_cons_of_mem _ z), upd_ne fun z => h (by rw [z]; exact List.mem_cons_self)]
theorem layP_in : ∀ (as : List Addr) (ps : List (V × V)) (H : Hp) (j : Nat) (a : Addr) (p : V × V), as.Nodup → as[j]? = some a → ps[j]? = some p → layP as ps H a = some (.tup [p.1, p.2])
  | [], _, _, _, _, _, _, h, _ => by simp at h
  | _ :: _, [], _, _, _, _, _, _, h => by simp at h
  | a :: as, p :: ps, H, 0, b, q, hn, h1, h2 => by
    simp at h1 h2
    subst h1
    subst h2
    unfold layP
    rw [layP_out as ps _ _ (List.nodup_cons.mp hn).1, upd_same]
  | a :: as, p :: ps, H, j + 1, b, q, hn, h1, h2 => by
    unfold layP
    exact layP_in as ps _ j b q (List.nodup_cons.mp hn).2 (by simpa using h1) (by simpa using h2)
/-- the pairs as data -/
def zipP (xs ys : List D) : List D := List.zipWith (fun a b => D.tup [a, b]) xs ys
theorem rps_zip {K : PySem.W.Frag} {H : Hp} {A : Ads} : ∀ (xs ys : List D) (vs us : List V) (as : List Addr), Rps K H A xs vs → Rps K H A ys us → as.length = (List.zip vs us).length →
    (∀ (j : Nat) (a : Addr) (p : V × V), as[j]? = some a → (List.zip vs us)[j]? = some p → H a = some (.tup [p.1, p.2])) → Rps K H A (zipP xs ys) (as.map V.ref)
  | [], ys, vs, us, as, h1, h2, hl, _ => by
    unfold Rps at h1
    subst h1
    cases as with
    | nil => exact Rps.nil
    | cons a as => simp at hl
  | x :: xs, [], vs, us, as, h1, h2, hl, _ => by
    unfold Rps at h2
    subst h2
    cases as with
    | nil => exact Rps.nil
    | cons a as => simp at hl
  | x :: xs, y :: ys, vs, us, as, h1, h2, hl, hp => by
    obtain ⟨v, r, rfl, a1, a2⟩ := h1.inv
    obtain ⟨u, q, rfl, b1, b2⟩ := h2.inv
    cases as with
    | nil => simp at hl
    | cons a as =>
      refine Rps.cons ?_ (rps_zip xs ys r q as a2 b2 (by simpa using hl) fun j b p e1 e2 => hp (j + 1) b p (by simpa using e1) (by simpa using e2))
      unfold Rp
      exact ⟨a, [v, u], rfl, .inl (.inl (hp 0 a (v, u) rfl rfl)), .cons a1 (.cons b1 .nil)⟩
theorem zlow_of {n m l1 l2 : Nat} (hn : m = n + 5) (h1 : l1 < n) (h2 : l2 < n) : ZLow m (n + 4) (n + 2) (n + 3) n (n + 1) l1 l2 := by
  subst hn
  exact ⟨Nat.lt_succ_self _, Nat.add_lt_add_left (by decide) n, Nat.add_lt_add_left (by decide) n, Nat.lt_add_of_pos_right (by decide), Nat.add_lt_add_left (by decide) n, Nat.lt_of_lt_of_le h1 (Nat.le_add_right _ _), Nat.lt_of_lt_of_le h2 (Nat.le_add_right _ _)⟩
section
variable {X : Cx} {fx : Fx} {W : WX} {pos : Pos}
theorem r_lzip {a b : Expr} {as : Es} {p p2 q : Pos} (hc : X.calm = true) (hg : Gl X "list") (hm : X.mg "list" = none) (hg2 : Gl X "zip") (hm2 : X.mg "zip" = none) (ha : PA X [a, b] (tEs X.K fx W as))
    (na : starEach [a, b] X.env = (false, eval a X.env) :: starEach [b] X.env) (hpl : (backTo q (starEach [b] X.env)).any (·.1) = false) (nz : starEach [.Call (.Name "zip" p2) [a, b] [] q] X.env = (false, eval (.Call (.Name "zip" p2) [a, b] [] q) X.env) :: starEach [] X.env) :
    PE X (.Call (.Name "list" p) [.Call (.Name "zip" p2) [a, b] [] q] [] pos) (tE X.K fx W (.blt .lzip as)) := by
  refine ⟨fun pins s σ H Q I ⟨env, A, S, hE, hS, h⟩ => ?_⟩
  unfold evE at h
  refine Call_ (ld_blt I hg hm boot_list (PyProof.Rows.callWith_type1 (PyProof.Rows.args_cons (Call_ (ld_blt I hg2 hm2 PyProof.Rows.boot_zip (PyProof.Rows.callWith_type1 (thn (ha.run q pins s σ H _ I ⟨env, A, S, hE, hS, RPs.bind h⟩) fun us s1 ⟨vs, H1, I1, rv, A1, S1, ds, x1, sr1, rd, h1⟩ => ?_) na hpl))) nz) nz))
  obtain ⟨z, h2, h3⟩ := RP.of h1
  replace h2 : lzipD S1 ds = some z := h2
  unfold lzipD at h2
  split at h2
  · rename_i d e
    split at h2
    · rename_i xs ys e1 e2
      split at h2
      · rename_i hl
        cases h2
        have f1 := view_tup e1
        have f2 := view_tup e2
        subst f1
        subst f2
        obtain ⟨v, u, rfl, rd1, rd2⟩ := rps2 rd
        obtain ⟨l1, ws, rfl, hq1, hr1⟩ := rd1.tup
        obtain ⟨l2, vs2, rfl, hq2, hr2⟩ := rd2.tup
        cases rv with
        | cons r rr =>
          cases rr with
          | cons r' rr =>
            cases rr
            cases r
            cases r'
            obtain ⟨its, ri, p1, _⟩ := I1.tuple hq1
            obtain ⟨its2, ri2, p2, _⟩ := I1.tuple hq2
            have hh := I1.ok.hd hc
            have t1 : s1.heap.IsTuple l1 its.toArray := p1
            have t2 : s1.heap.IsTuple l2 its2.toArray := p2
            obtain ⟨o1, ho1, _⟩ := id t1
            obtain ⟨o2, ho2, _⟩ := id t2
            have b1 := Heap.lt_size ho1
            have b2 := Heap.lt_size ho2
            refine RZ.call_zipT t1 t2 fun h' hz hTI hTO i1 i2 hsz hk => PyProof.Rows.args_nil ?_
            have hlen1 : its.length = ws.length := ri.length.symm
            have hlen2 : its2.length = vs2.length := ri2.length.symm
            have hd1 := hr1.length
            have hd2 := hr2.length
            have t1' : h'.IsTuple l1 its.toArray := ⟨o1, hk _ _ ho1, by obtain ⟨o, ho, r⟩ := t1; rw [ho1] at ho; cases ho; exact r⟩
            have t2' : h'.IsTuple l2 its2.toArray := ⟨o2, hk _ _ ho2, by obtain ⟨o, ho, r⟩ := t2; rw [ho2] at ho; cases ho; exact r⟩
            have L : ZLow h'.objs.size (s1.heap.objs.size + 4) (s1.heap.objs.size + 2) (s1.heap.objs.size + 3) s1.heap.objs.size (s1.heap.objs.size + 1) l1 l2 := zlow_of hsz b1 b2
            have hmin : min ws.length vs2.length ≤ sizeLine := by
              have := lim_size (n := ws.length) (by rw [← hd1]; exact hl)
              omega
            refine zl_call (s := { s1 with heap := h' }) hh (PySem.W.ktu_apart s1.heap.objs.size l1 l2 b1 b2) L (min ws.length vs2.length) hmin (fun i hi => ?_) ?_ hz hTO t1' t2' hTI i1 i2 fun h2 tk acc c as hk2 hS hal hG hacc => ?_
            · exact ⟨its[i]'(by omega), its2[i]'(by omega), by simp, by simp⟩
            · simp
              omega
            · dsimp only at hk2 hS hG ⊢
              have nd : as.Nodup := hG.rise.imp fun h => Nat.ne_of_lt h
              have hzl : (List.zip ws vs2).length = min ws.length vs2.length := List.length_zip
              have hs0 : s1.heap.objs.size ≤ h'.objs.size := by omega
              have aS : ∀ a ∈ as, h'.objs.size < a := hG.above
              have e1 : ∀ b, b < h'.objs.size → layP as (List.zip ws vs2) (upd H1 h'.objs.size (.lst (as.map V.ref))) b = H1 b := fun b hb => by
                rw [layP_out _ _ _ _ fun z => absurd (aS b z) (Nat.lt_asymm hb), upd_ne (Nat.ne_of_lt hb)]
              have eS : layP as (List.zip ws vs2) (upd H1 h'.objs.size (.lst (as.map V.ref))) h'.objs.size = some (.lst (as.map V.ref)) := by
                rw [layP_out _ _ _ _ fun z => absurd (aS _ z) (Nat.lt_irrefl _), upd_same]
              have hfree : ∀ b, s1.heap.objs.size ≤ b → H1 b = none := fun b hb => I1.hok.fresh hb
              have hsame : ∀ b, H1 b ≠ none → layP as (List.zip ws vs2) (upd H1 h'.objs.size (.lst (as.map V.ref))) b = H1 b := fun b hb => by
                refine e1 b ?_
                rcases Nat.lt_or_ge b s1.heap.objs.size with hb2 | hb2
                · exact Nat.lt_of_lt_of_le hb2 hs0
                · exact absurd (hfree b hb2) hb
              have I2 : Inv X pins σ (layP as (List.zip ws vs2) (upd H1 h'.objs.size (.lst (as.map V.ref)))) { s1 with heap := h2, toks := tk } := by
                refine inv_many (ch := []) I1 (fun b o _ e => ?_) (fun _ z => nomatch z) (fun b hb => e1 b (Nat.lt_of_lt_of_le hb hs0)) fun b u hb e => ?_
                · have := Heap.lt_size e
                  exact hk2 b o (Nat.ne_of_lt (Nat.lt_of_lt_of_le this (Nat.le_add_right _ _))) (Nat.ne_of_lt (Nat.lt_of_lt_of_le this (Nat.le_add_right _ _))) (Nat.ne_of_lt this) (Nat.ne_of_lt (Nat.lt_of_lt_of_le this (Nat.le_add_right _ _))) (hk b o e)
                · by_cases hS2 : b = h'.objs.size
                  · subst hS2
                    rw [eS] at e
                    cases e
                    refine ⟨by rw [List.length_map, hal]; exact hmin, acc.toList, c, ?_, by rw [Array.toArray_toList]; exact hS⟩
                    rw [hacc]
                    exact vals_refs as
                  · by_cases hb2 : b ∈ as
                    · obtain ⟨j, hj⟩ := List.mem_iff_getElem?.mp hb2
                      have hjl : j < (List.zip ws vs2).length := by
                        have := (List.getElem?_eq_some_iff.mp hj).1
                        omega
                      have hpj : (List.zip ws vs2)[j]? = some (List.zip ws vs2)[j] := List.getElem?_eq_getElem hjl
                      rw [layP_in as _ _ j b _ nd hj hpj] at e
                      cases e
                      obtain ⟨x, y, g1, g2, g3⟩ := hG.pairs j b hj
                      have hw : ws[j]? = some (List.zip ws vs2)[j].1 ∧ vs2[j]? = some (List.zip ws vs2)[j].2 := by
                        rw [List.getElem_zip]
                        exact ⟨List.getElem?_eq_getElem _, List.getElem?_eq_getElem _⟩
                      obtain ⟨x', q1, q2⟩ := ri.get hw.1
                      obtain ⟨y', q3, q4⟩ := ri2.get hw.2
                      have hx : x' = x := by simp at g1; rw [g1] at q1; exact (Option.some.inj q1).symm
                      have hy : y' = y := by simp at g2; rw [g2] at q3; exact (Option.some.inj q3).symm
                      subst hx
                      subst hy
                      exact ⟨by show 2 ≤ sizeLine; decide, [x', y'], .cons q2 (.cons q4 .nil), ⟨_, g3, rfl, _, rfl⟩⟩
                    · rw [layP_out _ _ _ _ hb2, upd_ne hS2, hfree b hb] at e
                      cases e
              refine ⟨.ref h'.objs.size, _, I2, rfl, ?_⟩
              have s2 := sr_many sr1 hsame
              have x2 := ext_many sr1 hsame
              refine h3 (.ref h'.objs.size) _ A1 x2 s2 ?_
              have nl : ¬ A1.live h'.objs.size := fun z => sr1.live z (hfree _ hs0)
              unfold Rp
              refine ⟨h'.objs.size, as.map V.ref, rfl, eS, nl, ?_⟩
              show Rps X.K _ A1 (zipP xs ys) _
              refine rps_zip xs ys ws vs2 as (Rps.mono x2 sr1.noTup _ _ hr1) (Rps.mono x2 sr1.noTup _ _ hr2) (by rw [hal, hzl]) fun j a p g1 g2 => layP_in as _ _ j a p nd g1 g2
      · cases h2
    · cases h2
  · cases h2
/-! ### list(x) that is made to be changed -/
def rBlF (K : PySem.W.Frag) : List V → Hp → VK → Prop := fun xs H Q => ∃ A S ds ys, SR K H A S ∧ Rps K H A ds xs ∧ listD S ds = some (.lst ys) ∧ ∀ vs p, Rps K H A ys vs → H p = none → Q (.ref p) (upd H p (.lst vs))
theorem listD_lst {S : Store} {ds : List D} {z : D} (h : listD S ds = some z) : ∃ ys, z = .lst ys := by
  unfold listD at h
  split at h
  · split at h
    · cases h; exact ⟨_, rfl⟩
    · cases h; exact ⟨_, rfl⟩
    · cases h
  · cases h
theorem call_listF : CallR X (.type "list") (rBlF X.K) := CallR.by fun xs H Q ⟨A, S, ds, z, s, rr, hf, ho⟩ => by
  unfold listD at hf
  split at hf
  · obtain ⟨v, rfl, r⟩ := rps1 rr
    split at hf
    · rename_i ys e1
      cases hf
      obtain ⟨a, vs, rfl, h4, h5⟩ := view_lst s r e1
      exact ⟨_, call_list_of, a, vs, rfl, .inl (SqL.of h4), fun p hp => ho vs p h5 hp⟩
    · rename_i ys e1
      cases hf
      have e2 := view_tup e1
      subst e2
      obtain ⟨a, vs, rfl, h4, h5⟩ := r.tup
      exact ⟨_, call_list_of, a, vs, rfl, .inr h4, fun p hp => ho vs p h5 hp⟩
    · cases hf
  · cases hf
theorem gl_list {as : Es} : GivesL fx (.blt .list as) := by
  intro env S d S' h
  unfold evE at h
  cases r : evEs fx as env S with
  | bad => rw [r] at h; cases h
  | exc c S1 => rw [r] at h; cases h
  | ok items S1 =>
    rw [r] at h
    have h : R.of (listD S1 items) S1 = .ok d S' := h
    cases e : listD S1 items with
    | none => rw [e] at h; cases h
    | some z =>
      rw [e] at h
      cases h
      exact listD_lst e
theorem r_listF {p : Pos} {e : Expr} {es : List Expr} {as : Es} (hg : Gl X "list") (hm : X.mg "list" = none) (ha : PA X (e :: es) (tEs X.K fx W as))
    (he : starEach (e :: es) X.env = (false, eval e X.env) :: starEach es X.env) (hpl : (backTo pos (starEach es X.env)).any (·.1) = false) : PE X (.Call (.Name "list" p) (e :: es) [] pos) (tFr X.K fx W (.blt .list as)) :=
  PE.imp (pe_callTy call_listF hg hm (by decide +kernel) ha (by decide) (by decide) he hpl) fun σ H Q ⟨env, A, S, hE, hS, h⟩ => by
    unfold evE at h
    refine ⟨env, A, S, hE, hS, ?_⟩
    cases r : evEs fx as env S with
    | bad => rw [r] at h; exact h.elim
    | exc c S1 => rw [r] at h; exact h
    | ok ds S1 =>
      rw [r] at h
      have h : RF X.K W σ A H (R.of (listD S1 ds) S1) Q := h
      cases e : listD S1 ds with
      | none => rw [e] at h; exact h.elim
      | some z =>
        rw [e] at h
        obtain ⟨ys, rfl⟩ := listD_lst e
        intro vs H1 A1 x1 s1 r1
        exact ⟨A1, S1, ds, ys, s1, r1, e, fun us p ru hp => h H1 A1 us p x1 s1 ru hp⟩
end
end Rs
end

section
set_option Elab.async false
set_option linter.all false
set_option maxRecDepth 100000
set_option maxHeartbeats 2000000
set_option autoImplicit false
/-! RsChk: whether a term of the small language is a piece of text; where it is, the evaluator is right. Own work. -/
namespace Rs
open PySem PySem.Spec PyProof.Rows L2

/-- what a global name is -/
inductive GK where
  | blt
  | int (i : Int)
  | str (x : Str)
  | fn (i : Nat)
  | exc
/-- what the check knows: the names by slot, the scope, which names are the block's own -/
structure Sx where
  N : List Str
  sc : Scope
  fnb : Str → Bool
  G : Str → Option GK

/-! ### shapes -/
def noStar : Expr → Bool
  | .Starred .. => false
  | _ => true
def isPlainT : Expr → Bool
  | .UnaryOp .Not _ _ => false
  | .BoolOp .. => false
  | .IfExp .. => false
  | .Compare .. => false
  | _ => true
def noSlice : Expr → Bool
  | .Slice .. => false
  | _ => true
def plainBase : Expr → Bool
  | .Call .. => false
  | _ => true
def noSet : Expr → Bool
  | .Set .. => false
  | _ => true
def noComp : Expr → Bool
  | .ListComp .. => false
  | .SetComp .. => false
  | .DictComp .. => false
  | _ => true
def dbg : Str := "__debug__"
def cdc : Str := "__classdict__"
theorem starEach1 {e : Expr} (h : noStar e = true) (es : List Expr) (env : Env) : starEach (e :: es) env = (false, eval e env) :: starEach es env := by
  cases e <;> first | rfl | cases h
theorem backs : ∀ {es : List Expr}, es.all noStar = true → ∀ (pos : Pos) (env : Env), (backTo pos (starEach es env)).any (·.1) = false
  | [], _, _, _ => rfl
  | e :: es, h, pos, env => by
    rw [List.all_cons, Bool.and_eq_true] at h
    rw [starEach1 h.1]
    have ih := backs h.2 pos env
    unfold backTo at ih ⊢
    rw [List.map_cons, List.any_cons, ih]
    rfl
theorem backsAll : ∀ {es : List Expr}, es.all noStar = true → ∀ (pos : Pos) (env : Env), (backTo pos (starEach es env)).all (fun x => !x.1) = true
  | [], _, _, _ => rfl
  | e :: es, h, pos, env => by
    rw [List.all_cons, Bool.and_eq_true] at h
    rw [starEach1 h.1]
    have ih := backsAll h.2 pos env
    unfold backTo at ih ⊢
    rw [List.map_cons, List.all_cons, ih]
    rfl
theorem few_of {es : List Expr} (h : es.all noStar = true) (hl : es.length < 30) (pos : Pos) (env : Env) : ((backTo pos (starEach es env)).all (fun x => !x.1) && (backToKw pos (keywordEach [] env)).all (fun x => x.1.isSome) && decide (es.length + ([] : List Keyword).length + (if ([] : List Keyword).isEmpty then 0 else 1) < 30)) = true := by
  rw [backsAll h, decide_eq_true (by show es.length + 0 + 0 < 30; omega)]
  rfl
theorem isTrue_plain {e : Expr} (h : isPlainT e = true) (env : Env) (whole : Sem Value) : isTrue e env whole = (do let v ← whole; standAt e.pos; holding [v] (truthy v)) := by
  cases e <;> first | rfl | (exfalso; cases h; done) | skip
  rename_i op _ _
  cases op <;> first | rfl | (exfalso; cases h; done)
theorem plainIx_of {b : Expr} (h : noSlice b = true) : PlainIx b := fun o i => by cases b <;> first | rfl | cases h
theorem base_of {a : Expr} (h : plainBase a = true) (m : Str) (env : Env) (w : Sem Value) : attributeBase a m env w = w := by cases a <;> first | rfl | cases h
theorem noSet_of {i : Expr} (h : noSet i = true) (env : Env) (x : Value) : foldedSetIterable i env x = pure x := by cases i <;> first | rfl | cases h
theorem noComp_of {e : Expr} (h : noComp e = true) (t : Option Expr) (l : Nat) (env : Env) : swapsWith e t l env = pure false := by cases e <;> first | rfl | cases h
theorem assign_sub {i : Expr} (h : noSlice i = true) (o : Expr) (pos : Pos) (env : Env) (v : Value) : assign (.Subscript o i pos) env v = (do
      let ov ← holding [v] (eval o env)
      let iv ← holding [v, ov] (eval i env)
      standAt pos
      holding [v, ov, iv] (setItem ov iv v)
      release [v, ov, iv] []) := by cases i <;> first | rfl | cases h
theorem asgEach1 {e : Expr} (h : noStar e = true) (es : List Expr) (env : Env) : assignEach (e :: es) env = (false, assign e env) :: assignEach es env := by
  cases e <;> first | rfl | cases h
theorem asgEach_len : ∀ (es : List Expr) (env : Env), (assignEach es env).length = es.length
  | [], _ => rfl
  | e :: es, env => by
    have ih := asgEach_len es env
    cases e <;> (unfold assignEach; rw [List.length_cons, List.length_cons, ih])
theorem asgEach_idx : ∀ {es : List Expr}, es.all noStar = true → ∀ env : Env, (assignEach es env).findIdx? (·.1) = none
  | [], _, _ => rfl
  | e :: es, h, env => by
    rw [List.all_cons, Bool.and_eq_true] at h
    rw [asgEach1 h.1, List.findIdx?_cons, asgEach_idx h.2 env]
    rfl

/-! ### what holds where the text runs -/
structure Good (S : Sx) (fx : Fx) (W : WX) (X : Cx) : Prop where
  N : X.N = S.N
  nd : X.N.Nodup
  sc : X.env.scope = S.sc
  fn : ∀ x, S.fnb x = true → X.fn x = true
  calm : X.calm = true
  hu : X.A.units + 65 < cLine
  gd : X.A.guards = some []
  tk : Takes X W
  sm : SysM X.K
  blt : ∀ x, S.G x = some .blt → X.mg x = none
  int : ∀ x i, S.G x = some (.int i) → ∃ t, X.mg x = some (.int i t)
  str : ∀ x i, S.G x = some (.str i) → ∃ t, X.mg x = some (.str i t)
  fns : ∀ x i, S.G x = some (.fn i) → ∃ k f fd ps, GOk X.prog X.w X.K X.mg X.base k f fd ps (spR X.K (fx.F i)) ∧ Room k X.A ∧ X.mg x = some (.ref f) ∧ PySem.W.keepIn X.K (.ref f) = true ∧ BindsAll X.K fd ps
section
variable {S : Sx} {fx : Fx} {W : WX} {X : Cx}
def visB (sc : Scope) (x : Str) : Bool := match sc.names.lookup x with
  | some .local => true
  | some .cell => true
  | some .free => true
  | _ => false
def locB (sc : Scope) (x : Str) : Bool := match sc.names.lookup x with
  | some .local => true
  | some .cell => true
  | _ => false
def glB (sc : Scope) (x : Str) : Bool := match sc.names.lookup x with
  | some .globalImplicit => true
  | _ => false
def plB (sc : Scope) (x : Str) : Bool := match sc.names.lookup x with
  | some .local => true
  | _ => false
theorem vis_of {sc : Scope} {x : Str} (h : visB sc x = true) : Vis sc x := by
  unfold visB at h
  split at h
  · exact .inl (by assumption)
  · exact .inr (.inl (by assumption))
  · exact .inr (.inr (by assumption))
  · cases h
theorem loc_of {sc : Scope} {x : Str} (h : locB sc x = true) : Loc sc x := by
  unfold locB at h
  split at h
  · exact .inl (by assumption)
  · exact .inr (by assumption)
  · cases h
theorem pl_of {sc : Scope} {x : Str} (h : plB sc x = true) : sc.names.lookup x = some .local := by
  unfold plB at h
  split at h
  · assumption
  · cases h
theorem Good.gl (g : Good S fx W X) {x : Str} (h : glB S.sc x = true) : Gl X x := by
  unfold glB at h
  show X.env.scope.names.lookup x = some .globalImplicit
  rw [g.sc]
  split at h
  · assumption
  · cases h
theorem Good.vis (g : Good S fx W X) {x : Str} (h : visB S.sc x = true) : Vis X.env.scope x := by rw [g.sc]; exact vis_of h
theorem Good.loc (g : Good S fx W X) {x : Str} (h : locB S.sc x = true) : Loc X.env.scope x := by rw [g.sc]; exact loc_of h
theorem Good.pl (g : Good S fx W X) {x : Str} (h : plB S.sc x = true) : X.env.scope.names.lookup x = some .local := by rw [g.sc]; exact pl_of h
/-- the context of a block -/
def Sx.blk (S : Sx) (scope : Scope) : Sx := { S with sc := relS scope S.sc, fnb := fun x => scope.names.lookup x == some .cell }
theorem Good.blk (g : Good S fx W X) (scope : Scope) (s : Shared) (H : Hp) (C : Addr) (cl : List (Str × Addr)) (fp : List Addr) : Good (S.blk scope) fx W0 (X.blk s H scope (compEnvC scope cl C X.env) fp) where
  N := g.N
  nd := g.nd
  sc := by
    show relS scope X.env.scope = relS scope S.sc
    rw [g.sc]
  fn := fun _ h => h
  calm := g.calm
  hu := g.hu
  gd := g.gd
  tk := takes0
  sm := g.sm
  blt := g.blt
  int := g.int
  str := g.str
  fns := g.fns
end
end Rs
end

section
set_option Elab.async false
set_option linter.all false
set_option maxRecDepth 100000
set_option maxHeartbeats 2000000
set_option autoImplicit false
/-! RsChk2: the check of expressions. Own work. -/
namespace Rs
open PySem PySem.Spec PyProof.Rows L2

def bltName : Blt → Option (Str × Bool)
  | .len => some ("len", true)
  | .abs => some ("abs", true)
  | .max => some ("max", true)
  | .min => some ("min", true)
  | .sum => some ("sum", true)
  | .all => some ("all", true)
  | .any => some ("any", true)
  | .sorted => some ("sorted", true)
  | .tuple => some ("tuple", false)
  | .list => some ("list", false)
  | .int => some ("int", false)
  | .str => some ("str", false)
  | .repr => some ("repr", true)
  | _ => none
def isBlt (S : Sx) (x : Str) : Bool := glB S.sc x && match S.G x with
  | some .blt => true
  | _ => false
def isFn (S : Sx) (x : Str) (i : Nat) : Bool := glB S.sc x && x != dbg && match S.G x with
  | some (.fn j) => i == j
  | _ => false
def swB (sc : Scope) (scope : Scope) (t : Str) (p pos : Pos) : Bool := plB sc t && (p.line == pos.line) && !(scope.names.any fun (n, k) => n == t && (k == .local || k == .cell))
/-- the names of a block with their places -/
def ownOf (N : List Str) (own : List Nat) : List (Str × Nat) := own.map fun i => ((N[i]?).getD "", i)
theorem ownOf_ix (N : List Str) : ∀ own : List Nat, (ownOf N own).map (·.2) = own
  | [] => rfl
  | i :: r => by
    unfold ownOf
    rw [List.map_cons, List.map_cons]
    congr 1
    exact ownOf_ix N r
def sub (xs ys : List Nat) : Bool := xs.all fun i => decide (i ∈ ys)
mutual
/-- t: as a test -/
def chkE (S : Sx) (t : Bool) : E → Expr → Bool
  | .var i, x => match x with
    | .Name n _ => decide (S.N[i]? = some n) && visB S.sc n && n != dbg && n != cdc
    | _ => false
  | .cst d, x => match d, x with
    | .int i, .Constant (.int j) _ _ => decide (i = j)
    | .bl i, .Constant (.bool j) _ _ => decide (i = j)
    | .non, .Constant .none _ _ => true
    | .str i, .Constant (.str j) _ _ => decide (i = j)
    | _, _ => false
  | .glo n d, x => match x with
    | .Name m _ => decide (n = m) && glB S.sc m && m != dbg && match d, S.G m with
      | .int i, some (.int j) => decide (i = j)
      | .str i, some (.str j) => decide (i = j)
      | _, _ => false
    | _ => false
  | .tup es, x => match x with
    | .Tuple xs _ _ => xs.all noStar && chkEs S es xs
    | _ => false
  | .lst es, x => match x with
    | .List xs _ => xs.all noStar && chkEs S es xs
    | _ => false
  | .bop o a b, x => match x with
    | .BinOp l op r _ => decide (op = opOf o) && chkE S false a l && chkE S false b r
    | _ => false
  | .neg a, x => match x with
    | .UnaryOp .USub l _ => chkE S false a l
    | _ => false
  | .cmp o a b, x => match x with
    | .Compare l [op] [r] _ => decide (op = cmpOf o) && chkE S false a l && chkE S false b r && !behindInMarks op r
    | _ => false
  | .chn o p a b c, x => match x with
    | .Compare l [op, op2] [r, r2] _ => decide (op = cmpOf o) && decide (op2 = cmpOf p) && chkE S false a l && chkE S false b r && chkE S false c r2 && !behindInMarks op2 r2
    | _ => false
  | .ch3 o p q a b c d, x => match x with
    | .Compare l [op, op2, op3] [r, r2, r3] _ => !t && decide (op = cmpOf o) && decide (op2 = cmpOf p) && decide (op3 = cmpOf q) && chkE S false a l && chkE S false b r && chkE S false c r2 && chkE S false d r3 && !behindInMarks op3 r3
    | _ => false
  | .and a b, x => match x with
    | .BoolOp .And [l, r] _ => chkE S t a l && chkE S t b r
    | .BoolOp .And (l :: r :: r2 :: rs) pos => chkE S t a l && chkE S t b (.BoolOp .And (r :: r2 :: rs) pos)
    | _ => false
  | .or a b, x => match x with
    | .BoolOp .Or [l, r] _ => chkE S t a l && chkE S t b r
    | .BoolOp .Or (l :: r :: r2 :: rs) pos => chkE S t a l && chkE S t b (.BoolOp .Or (r :: r2 :: rs) pos)
    | _ => false
  | .not a, x => match x with
    | .UnaryOp .Not l _ => chkE S t a l
    | _ => false
  | .ite c a b, x => match x with
    | .IfExp l r r2 _ => !t && chkE S true c l && chkE S false a r && chkE S false b r2
    | _ => false
  | .ix a b, x => match x with
    | .Subscript l r _ => chkE S false a l && chkE S false b r && noSlice r
    | _ => false
  | .sl a lo hi, x => match x with
    | .Subscript l (.Slice r r2 none _) _ => chkE S false a l && chkP S lo r && chkP S hi r2
    | _ => false
  | .call i as, x => match x with
    | .Call (.Name n _) xs [] _ => isFn S n i && xs.all noStar && chkEs S as xs
    | _ => false
  | .blt o as, x => match o with
    | .lzip => match x with
      | .Call (.Name n _) [.Call (.Name m _) [y, z] [] _] [] _ => isBlt S n && decide (n = "list") && isBlt S m && decide (m = "zip") && noStar y && noStar z && chkEs S as [y, z]
      | _ => false
    | .lenset => match x with
      | .Call (.Name n _) [.Call (.Name m _) [y] [] _] [] _ => isBlt S n && decide (n = "len") && isBlt S m && decide (m = "set") && noStar y && chkEs S as [y]
      | _ => false
    | _ => match x with
      | .Call (.Name n _) xs [] _ => isBlt S n && (match bltName o with
        | some (m, _) => decide (n = m)
        | none => false) && !xs.isEmpty && xs.all noStar && chkEs S as xs
      | _ => false
  | .rng lt as, x => match x with
    | .Call (.Name n _) [.Call (.Name m _) xs [] _] [] _ => isBlt S n && isBlt S m && decide (m = "range") && decide (n = if lt then "list" else "tuple") && xs.all noStar && chkEs S as xs && (xs.length == 1 || xs.length == 2)
    | _ => false
  | .mth o a as, x => match x with
    | .Call (.Attribute l m apos) xs [] pos => decide (m = mthName o) && plainBase l && chkE S false a l && !xs.isEmpty && xs.all noStar && decide (xs.length < 30) && (apos.endLine == pos.line) && chkEs S as xs
    | _ => false
  | .app a e, x => match x with
    | .Call (.Attribute l m apos) [y] [] pos => decide (m = "append") && plainBase l && chkE S false a l && noStar y && (apos.endLine == pos.line) && chkE S false e y
    | _ => false
  | .ext a e, x => match x with
    | .Call (.Attribute l m apos) [y] [] pos => decide (m = "extend") && plainBase l && chkE S false a l && noStar y && (apos.endLine == pos.line) && chkE S false e y
    | _ => false
  | .pop a, x => match x with
    | .Call (.Attribute l m apos) [] [] pos => decide (m = "pop") && plainBase l && chkE S false a l && (apos.endLine == pos.line)
    | _ => false
  | .ppi a e, x => match x with
    | .Call (.Attribute l m apos) [y] [] pos => decide (m = "pop") && plainBase l && chkE S false a l && noStar y && (apos.endLine == pos.line) && chkE S false e y
    | _ => false
  | .isi a ty, x => match x with
    | .Call (.Name n _) [l, .Name m _] [] _ => isBlt S n && isBlt S m && decide (n = "isinstance") && (match ty with
      | .own _ => false
      | _ => decide (m = (tyName ty : Str))) && noStar l && chkE S false a l
    | _ => false
  | .lc own elt tg it c g, x => match x with
    | .ListComp y (⟨l, i, ifs, a⟩ :: gs) scope _ => decide (a = 0) && noSet i && blkC S.N S.sc scope (ownOf S.N own) && sub (slT tg ++ slG g) own && chkI S it l i &&
      chkT (S.blk scope) tg l && chkC (S.blk scope) c ifs && chkG (S.blk scope) g gs && chkE (S.blk scope) false elt y
    | _ => false
  | .mut e, x => chkF S e x
  | _, _ => false
/-- what makes a new list -/
def chkF (S : Sx) : E → Expr → Bool
  | .lst es, x => match x with
    | .List xs _ => xs.all noStar && chkEs S es xs
    | _ => false
  | .lc own elt tg it c g, x => match x with
    | .ListComp y (⟨l, i, ifs, a⟩ :: gs) scope _ => decide (a = 0) && noSet i && blkC S.N S.sc scope (ownOf S.N own) && sub (slT tg ++ slG g) own && chkI S it l i &&
      chkT (S.blk scope) tg l && chkC (S.blk scope) c ifs && chkG (S.blk scope) g gs && chkE (S.blk scope) false elt y
    | _ => false
  | .blt o as, x => match o with
    | .list => match x with
      | .Call (.Name n _) xs [] _ => isBlt S n && decide (n = "list") && !xs.isEmpty && xs.all noStar && chkEs S as xs
      | _ => false
    | _ => false
  | _, _ => false
def chkEs (S : Sx) : Es → List Expr → Bool
  | .nil, xs => xs.isEmpty
  | .cons e es, xs => match xs with
    | y :: ys => chkE S false e y && chkEs S es ys
    | [] => false
/-- a slice's part -/
def chkP (S : Sx) : Es → Option Expr → Bool
  | .nil, x => x.isNone
  | .cons e es, x => match es, x with
    | .nil, some y => chkE S false e y
    | _, _ => false
/-- a clause's tests -/
def chkC (S : Sx) : Es → List Expr → Bool
  | .nil, xs => xs.isEmpty
  | .cons e es, xs => match es, xs with
    | .nil, [y] => chkE S true e y
    | _, _ => false
def chkI (S : Sx) : Rs.It → Expr → Expr → Bool
  | .of e, _, x => chkE S false e x
  | .rng es, _, x => match x with
    | .Call (.Name n _) xs [] _ => isBlt S n && decide (n = "range") && xs.all noStar && chkEs S es xs && (xs.length == 1 || xs.length == 2 || xs.length == 3)
    | _ => false
  | .enu e, l, x => match l, x with
    | .Tuple .., .Call (.Name n _) [y] [] _ => isBlt S n && decide (n = "enumerate") && noStar y && chkE S false e y
    | _, _ => false
  | .zip a b, l, x => match l, x with
    | .Tuple .., .Call (.Name n _) [y, z] [] _ => isBlt S n && decide (n = "zip") && noStar y && noStar z && chkE S false a y && chkE S false b z
    | _, _ => false
  | .items _, _, _ => false
def chkG (S : Sx) : Gs → List Comprehension → Bool
  | .nil, gs => gs.isEmpty
  | .cons tg it c g, gs => match gs with
    | ⟨l, i, ifs, a⟩ :: gs => decide (a = 0) && noSet i && chkI S it l i && chkT S tg l && chkC S c ifs && chkG S g gs
    | [] => false
def chkT (S : Sx) : Tg → Expr → Bool
  | .nm i, x => match x with
    | .Name n _ => decide (S.N[i]? = some n) && locB S.sc n && (S.fnb n || plB S.sc n)
    | _ => false
  | .tup ts, x => match x with
    | .Tuple xs _ _ => xs.all noStar && chkTs S ts xs
    | _ => false
  | .sub o i, x => match x with
    | .Subscript l r _ => chkE S false o l && chkE S false i r && noSlice r
    | _ => false
  | _, _ => false
def chkTs (S : Sx) : Tgs → List Expr → Bool
  | .nil, xs => xs.isEmpty
  | .cons t ts, xs => match xs with
    | y :: ys => chkT S t y && chkTs S ts ys
    | [] => false
end
end Rs
end

section
set_option Elab.async false
set_option linter.all false
set_option maxRecDepth 100000
set_option maxHeartbeats 4000000
set_option autoImplicit false
/-! RsChk3: the check of expressions is sound. Own work. -/
namespace Rs
open PySem PySem.Spec PyProof.Rows L2

def RuleOf (X : Cx) (fx : Fx) (W : WX) (t : Bool) (e : E) (x : Expr) : Prop :=
  match t with
  | false => PE X x (tE X.K fx W e)
  | true => PT X x (tT X.K fx W e)
section
variable {fx : Fx}
theorem fin {X : Cx} {W : WX} {t : Bool} {e : E} {x : Expr} (h : PE X x (tE X.K fx W e)) (hp : isPlainT x = true) : RuleOf X fx W t e x := by
  cases t with
  | false => exact h
  | true => exact r_truth h fun whole => isTrue_plain hp X.env whole
theorem blt_of {S : Sx} {W : WX} {X : Cx} (g : Good S fx W X) {x : Str} (h : isBlt S x = true) : Gl X x ∧ X.mg x = none := by
  unfold isBlt at h
  rw [Bool.and_eq_true] at h
  refine ⟨g.gl h.1, g.blt x ?_⟩
  have h2 := h.2
  split at h2
  · assumption
  · cases h2
theorem fn_of {S : Sx} {W : WX} {X : Cx} (g : Good S fx W X) {x : Str} {i : Nat} (h : isFn S x i = true) : Gl X x ∧ (x == dbg) = false ∧ S.G x = some (.fn i) := by
  unfold isFn at h
  rw [Bool.and_eq_true, Bool.and_eq_true] at h
  refine ⟨g.gl h.1.1, by simpa using h.1.2, ?_⟩
  have h2 := h.2
  split at h2
  · rename_i j e
    have : i = j := by simpa using h2
    rw [this]; exact e
  · cases h2
/-- the built-ins as a table -/
theorem r_blt {X : Cx} {W : WX} {o : Blt} {n m : Str} {b : Bool} {p pos : Pos} {xs : List Expr} {as : Es} (hc : X.calm = true) (hu : X.A.units + 65 < cLine) (hgd : X.A.guards = some []) (sm : SysM X.K) (hn : bltName o = some (m, b)) (e : n = m) (hg : Gl X n) (hm : X.mg n = none) (he : xs.isEmpty = false) (hs : xs.all noStar = true)
    (ha : PA X xs (tEs X.K fx W as)) : PE X (.Call (.Name n p) xs [] pos) (tE X.K fx W (.blt o as)) := by
  cases xs with
  | nil => cases he
  | cons y ys =>
    rw [List.all_cons, Bool.and_eq_true] at hs
    have h1 := starEach1 hs.1 ys X.env
    have h2 := backs hs.2 pos X.env
    subst e
    cases o <;> first | (exfalso; cases hn; done) | skip
    · cases hn; exact r_bltB call_lenD hg hm PySem.boot_len ha (by decide) (by decide) h1 h2
    · cases hn; exact r_bltB call_absD hg hm (by decide +kernel) ha (by decide) (by decide) h1 h2
    · cases hn; exact r_bltB (call_maxD hc hu) hg hm (by decide +kernel) ha (by decide) (by decide) h1 h2
    · cases hn; exact r_bltB (call_minD hc hu) hg hm (by decide +kernel) ha (by decide) (by decide) h1 h2
    · cases hn; exact r_bltB (call_sumD hc) hg hm (by decide +kernel) ha (by decide) (by decide) h1 h2
    · cases hn; exact r_bltB (call_allD hc) hg hm (by decide +kernel) ha (by decide) (by decide) h1 h2
    · cases hn; exact r_bltB (call_anyD hc) hg hm (by decide +kernel) ha (by decide) (by decide) h1 h2
    · cases hn; exact r_bltB call_sortedD hg hm (by decide +kernel) ha (by decide) (by decide) h1 h2
    · cases hn; exact r_bltT call_tupleD hg hm (by decide +kernel) ha (by decide) (by decide) h1 h2
    · cases hn; exact r_bltT call_listD hg hm (by decide +kernel) ha (by decide) (by decide) h1 h2
    · cases hn; exact r_bltT call_intD hg hm (by decide +kernel) ha (by decide) (by decide) h1 h2
    · cases hn; exact r_bltT call_strD hg hm (by decide +kernel) ha (by decide) (by decide) h1 h2
    · cases hn; exact r_bltB (call_reprD sm hgd hu) hg hm (by decide +kernel) ha (by decide) (by decide) h1 h2
theorem ty_boot : ∀ t : Ty, (∀ c, t ≠ .own c) → bootBuiltins (tyName t : Str) = some (.type (tyName t)) ∧ (tyName t : Str) ≠ "__name__" ∧ ((tyName t : Str) == ("__debug__" : Str)) = false
  | .int, _ => ⟨by decide +kernel, by decide, by decide⟩
  | .bool, _ => ⟨by decide +kernel, by decide, by decide⟩
  | .str, _ => ⟨by decide +kernel, by decide, by decide⟩
  | .tup, _ => ⟨by decide +kernel, by decide, by decide⟩
  | .lst, _ => ⟨by decide +kernel, by decide, by decide⟩
  | .own c, h => absurd rfl (h c)
theorem sub_of {xs ys : List Nat} (h : sub xs ys = true) : ∀ j, j ∈ xs → j ∈ ys := fun j hj => of_decide_eq_true (List.all_eq_true.mp h j hj)
/-- one more conjunct -/
theorem and2 {a b : Bool} (h : (a && b) = true) : a = true ∧ b = true := by rwa [Bool.and_eq_true] at h
theorem not_true {b : Bool} (h : (!b) = true) : b = false := by simpa using h
theorem dec {p : Prop} [Decidable p] (h : decide p = true) : p := of_decide_eq_true h
theorem ne_of_bne {a b : Str} (h : (a != b) = true) : (a == b) = false := by simpa using h
theorem r_lcX {S : Sx} {W : WX} {X : Cx} (g : Good S fx W X) {elt y l i : Expr} {ifs : List Expr} {gs : List Comprehension} {scope : Scope} {pos : Pos} {own : List Nat} {elt' : E} {tg : Tg} {it : Rs.It} {c : Es} {g' : Gs}
    (hset : noSet i = true) (hblk : blkC S.N S.sc scope (ownOf S.N own) = true) (hsub : sub (slT tg ++ slG g') own = true) (hi : PI X l i (tI X.K fx W it)) (hb : BlkR X fx y l i ifs gs scope pos elt' tg c g') :
    PE X (.ListComp y (⟨l, i, ifs, 0⟩ :: gs) scope pos) (tFr X.K fx W (.lc own elt' tg it c g')) := by
  have h := r_lcF (own := ownOf S.N own) g.calm g.nd hi (blkOk_by (by rw [g.N, g.sc]; exact hblk)) hb (fun j hj => by rw [ownOf_ix]; exact sub_of hsub j hj) (noSet_of hset X.env)
  rw [ownOf_ix] at h
  exact h
theorem okTs_cons {X : Cx} {W : WX} {y : Expr} {ys : List Expr} {t : Tg} {ts : Tgs} (h : noStar y = true) (h1 : PG X y (tG X.K fx W t)) (h2 : PGs X ys (tGs X.K fx W ts)) : PGs X (y :: ys) (tGs X.K fx W (.cons t ts)) :=
  r_gcons h1 h2 (by rw [asgEach1 h, List.map_cons])
mutual
theorem okE : ∀ (e : E) (S : Sx) (W : WX) (X : Cx) (t : Bool) (x : Expr), Good S fx W X → chkE S t e x = true → RuleOf X fx W t e x
  | .var i, S, W, X, t, x, g, h => by
    unfold chkE at h
    split at h
    · obtain ⟨h, h4⟩ := and2 h
      obtain ⟨h, h3⟩ := and2 h
      obtain ⟨h1, h2⟩ := and2 h
      exact fin (r_var (by rw [g.N]; exact dec h1) (g.vis h2) (ne_of_bne h3) (ne_of_bne h4)) rfl
    · cases h
  | .cst d, S, W, X, t, x, g, h => by
    unfold chkE at h
    split at h
    · rw [dec h]; exact fin r_int rfl
    · rw [dec h]; exact fin r_bl rfl
    · exact fin r_non rfl
    · rw [dec h]; exact fin r_str rfl
    · cases h
  | .glo n d, S, W, X, t, x, g, h => by
    unfold chkE at h
    split at h
    · obtain ⟨h, h4⟩ := and2 h
      obtain ⟨h, h3⟩ := and2 h
      obtain ⟨h1, h2⟩ := and2 h
      have e := dec h1
      subst e
      split at h4
      · rename_i e2
        rw [dec h4]
        obtain ⟨tk, hm⟩ := g.int _ _ e2
        exact fin (r_globI (g.gl h2) hm (ne_of_bne h3)) rfl
      · rename_i e2
        rw [dec h4]
        obtain ⟨tk, hm⟩ := g.str _ _ e2
        exact fin (r_globS (g.gl h2) hm (ne_of_bne h3)) rfl
      · cases h4
    · cases h
  | .tup es, S, W, X, t, x, g, h => by
    unfold chkE at h
    split at h
    · obtain ⟨h1, h2⟩ := and2 h
      exact fin (r_tup (okEs es S W X _ g h1 h2)) rfl
    · cases h
  | .lst es, S, W, X, t, x, g, h => by
    unfold chkE at h
    split at h
    · obtain ⟨h1, h2⟩ := and2 h
      exact fin (r_lst (okEs es S W X _ g h1 h2)) rfl
    · cases h
  | .bop o a b, S, W, X, t, x, g, h => by
    unfold chkE at h
    split at h
    · obtain ⟨h, h3⟩ := and2 h
      obtain ⟨h1, h2⟩ := and2 h
      rw [dec h1]
      exact fin (r_bop (okE a S W X false _ g h2) (okE b S W X false _ g h3)) rfl
    · cases h
  | .neg a, S, W, X, t, x, g, h => by
    unfold chkE at h
    split at h
    · exact fin (r_neg (okE a S W X false _ g h)) rfl
    · cases h
  | .cmp o a b, S, W, X, t, x, g, h => by
    unfold chkE at h
    split at h
    · obtain ⟨h, h4⟩ := and2 h
      obtain ⟨h, h3⟩ := and2 h
      obtain ⟨h1, h2⟩ := and2 h
      have e := dec h1
      subst e
      have hb := not_true h4
      cases t with
      | false => exact r_cmp g.hu (okE a S W X false _ g h2) (okE b S W X false _ g h3) hb
      | true => exact r_cmpT g.hu (okE a S W X false _ g h2) (okE b S W X false _ g h3) hb
    · cases h
  | .chn o p a b c, S, W, X, t, x, g, h => by
    unfold chkE at h
    split at h
    · obtain ⟨h, h6⟩ := and2 h
      obtain ⟨h, h5⟩ := and2 h
      obtain ⟨h, h4⟩ := and2 h
      obtain ⟨h, h3⟩ := and2 h
      obtain ⟨h1, h2⟩ := and2 h
      have e := dec h1
      subst e
      have e := dec h2
      subst e
      have hb := not_true h6
      cases t with
      | false => exact r_chn g.hu (okE a S W X false _ g h3) (okE b S W X false _ g h4) (okE c S W X false _ g h5) hb
      | true => exact r_chnT g.hu (okE a S W X false _ g h3) (okE b S W X false _ g h4) (okE c S W X false _ g h5) hb
    · cases h
  | .ch3 o p q a b c d, S, W, X, t, x, g, h => by
    unfold chkE at h
    split at h
    · obtain ⟨h, h9⟩ := and2 h
      obtain ⟨h, h8⟩ := and2 h
      obtain ⟨h, h7⟩ := and2 h
      obtain ⟨h, h6⟩ := and2 h
      obtain ⟨h, h5⟩ := and2 h
      obtain ⟨h, h4⟩ := and2 h
      obtain ⟨h, h3⟩ := and2 h
      obtain ⟨h1, h2⟩ := and2 h
      have e := dec h2
      subst e
      have e := dec h3
      subst e
      have e := dec h4
      subst e
      have hb := not_true h9
      cases t with
      | false => exact r_ch3 g.hu (okE a S W X false _ g h5) (okE b S W X false _ g h6) (okE c S W X false _ g h7) (okE d S W X false _ g h8) hb
      | true => cases h1
    · cases h
  | .and a b, S, W, X, t, x, g, h => by
    unfold chkE at h
    split at h
    · obtain ⟨h1, h2⟩ := and2 h
      cases t with
      | false => exact r_and (okE a S W X false _ g h1) (pe_one (okE b S W X false _ g h2))
      | true => exact r_andT (okE a S W X true _ g h1) (pt_one (okE b S W X true _ g h2))
    · obtain ⟨h1, h2⟩ := and2 h
      cases t with
      | false => exact r_and (okE a S W X false _ g h1) (okE b S W X false _ g h2)
      | true => exact r_andT (okE a S W X true _ g h1) (okE b S W X true _ g h2)
    · cases h
  | .or a b, S, W, X, t, x, g, h => by
    unfold chkE at h
    split at h
    · obtain ⟨h1, h2⟩ := and2 h
      cases t with
      | false => exact r_or (okE a S W X false _ g h1) (pe_one (okE b S W X false _ g h2))
      | true => exact r_orT (okE a S W X true _ g h1) (pt_one (okE b S W X true _ g h2))
    · obtain ⟨h1, h2⟩ := and2 h
      cases t with
      | false => exact r_or (okE a S W X false _ g h1) (okE b S W X false _ g h2)
      | true => exact r_orT (okE a S W X true _ g h1) (okE b S W X true _ g h2)
    · cases h
  | .not a, S, W, X, t, x, g, h => by
    unfold chkE at h
    split at h
    · cases t with
      | false => exact r_not (okE a S W X false _ g h)
      | true => exact r_notT (okE a S W X true _ g h)
    · cases h
  | .ite c a b, S, W, X, t, x, g, h => by
    unfold chkE at h
    split at h
    · obtain ⟨h, h4⟩ := and2 h
      obtain ⟨h, h3⟩ := and2 h
      obtain ⟨h1, h2⟩ := and2 h
      cases t with
      | false => exact r_ite (okE c S W X true _ g h2) (okE a S W X false _ g h3) (okE b S W X false _ g h4)
      | true => cases h1
    · cases h
  | .ix a b, S, W, X, t, x, g, h => by
    unfold chkE at h
    split at h
    · obtain ⟨h, h3⟩ := and2 h
      obtain ⟨h1, h2⟩ := and2 h
      exact fin (r_ix (okE a S W X false _ g h1) (okE b S W X false _ g h2) (plainIx_of h3)) rfl
    · cases h
  | .sl a lo hi, S, W, X, t, x, g, h => by
    unfold chkE at h
    split at h
    · obtain ⟨h, h3⟩ := and2 h
      obtain ⟨h1, h2⟩ := and2 h
      exact fin (r_sl (okE a S W X false _ g h1) (okP lo S W X _ g h2) (okP hi S W X _ g h3)) rfl
    · cases h
  | .call i as, S, W, X, t, x, g, h => by
    unfold chkE at h
    split at h
    · rename_i n p xs pos
      obtain ⟨h, h3⟩ := and2 h
      obtain ⟨h1, h2⟩ := and2 h
      obtain ⟨hg, hd, hG⟩ := fn_of g h1
      obtain ⟨k, f, fd, ps, G, hr, hm, hk, hb⟩ := g.fns _ _ hG
      have ha := okEs as S W X xs g h2 h3
      cases xs with
      | nil =>
        cases as with
        | nil => exact fin (r_call0 G hr g.gd hg hm hk hb g.tk hd) rfl
        | cons e es => unfold chkEs at h3; cases h3
      | cons y ys =>
        rw [List.all_cons, Bool.and_eq_true] at h2
        exact fin (r_call G hr g.gd hg hm hk hb g.tk ha hd (starEach1 h2.1 ys X.env) (backs h2.2 _ X.env)) rfl
    · cases h
  | .blt o as, S, W, X, t, x, g, h => by
    unfold chkE at h
    split at h
    · split at h
      · obtain ⟨h, h7⟩ := and2 h
        obtain ⟨h, h6⟩ := and2 h
        obtain ⟨h, h5⟩ := and2 h
        obtain ⟨h, h4⟩ := and2 h
        obtain ⟨h, h3⟩ := and2 h
        obtain ⟨h1, h2⟩ := and2 h
        obtain ⟨hg, hm⟩ := blt_of g h1
        obtain ⟨hg2, hm2⟩ := blt_of g h3
        have e1 := dec h2
        subst e1
        have e2 := dec h4
        subst e2
        exact fin (r_lzip g.calm hg hm hg2 hm2 (okEs as S W X _ g (by rw [List.all_cons, h5, List.all_cons, h6]; rfl) h7) (starEach1 h5 [_] X.env) (backs (by rw [List.all_cons, h6]; rfl) _ X.env) (starEach1 rfl [] X.env)) rfl
      · cases h
    · split at h
      · obtain ⟨h, h6⟩ := and2 h
        obtain ⟨h, h5⟩ := and2 h
        obtain ⟨h, h4⟩ := and2 h
        obtain ⟨h, h3⟩ := and2 h
        obtain ⟨h1, h2⟩ := and2 h
        obtain ⟨hg, hm⟩ := blt_of g h1
        obtain ⟨hg2, hm2⟩ := blt_of g h3
        have e1 := dec h2
        subst e1
        have e2 := dec h4
        subst e2
        exact fin (r_lenset g.calm g.hu hg hm hg2 hm2 (okEs as S W X _ g (by rw [List.all_cons, h5]; rfl) h6) (starEach1 h5 [] X.env)) rfl
      · cases h
    · split at h
      · obtain ⟨h, h5⟩ := and2 h
        obtain ⟨h, h4⟩ := and2 h
        obtain ⟨h, h3⟩ := and2 h
        obtain ⟨h1, h2⟩ := and2 h
        obtain ⟨hg, hm⟩ := blt_of g h1
        split at h2
        · rename_i m b hn
          exact fin (r_blt g.calm g.hu g.gd g.sm hn (dec h2) hg hm (by simpa using h3) h4 (okEs as S W X _ g h4 h5)) rfl
        · cases h2
      · cases h
  | .rng lt as, S, W, X, t, x, g, h => by
    unfold chkE at h
    split at h
    · rename_i n p m p2 xs pos2 pos
      obtain ⟨h, h7⟩ := and2 h
      obtain ⟨h, h6⟩ := and2 h
      obtain ⟨h, h5⟩ := and2 h
      obtain ⟨h, h4⟩ := and2 h
      obtain ⟨h, h3⟩ := and2 h
      obtain ⟨h1, h2⟩ := and2 h
      obtain ⟨hg1, hm1⟩ := blt_of g h1
      obtain ⟨hg2, hm2⟩ := blt_of g h2
      have e := dec h3
      subst e
      have rge : RgE X fx W (.Call (.Name "range" p2) xs [] pos2) as := by
        match xs, as, h5, h6 with
        | [y], .cons e1 .nil, h5, h6 =>
          unfold chkEs at h6
          obtain ⟨k1, k2⟩ := and2 h6
          rw [List.all_cons, Bool.and_eq_true] at h5
          exact .one (okE e1 S W X false _ g k1) (starEach1 h5.1 [] X.env)
        | [y, z], .cons e1 (.cons e2 .nil), h5, h6 =>
          unfold chkEs at h6
          obtain ⟨k1, k2⟩ := and2 h6
          unfold chkEs at k2
          obtain ⟨k2, k3⟩ := and2 k2
          rw [List.all_cons, Bool.and_eq_true] at h5
          have h52 := h5.2
          rw [List.all_cons, Bool.and_eq_true] at h52
          exact .two (okE e1 S W X false _ g k1) (okE e2 S W X false _ g k2) (starEach1 h5.1 [z] X.env) (starEach1 h52.1 [] X.env) (backs h5.2 _ X.env)
        | [], _, _, _ => cases h7
        | _ :: _ :: _ :: _, _, _, _ => simp at h7
        | [y], .nil, _, h6 => unfold chkEs at h6; cases h6
        | [y], .cons e1 (.cons e2 es), _, h6 => simp [chkEs] at h6
        | [y, z], .nil, _, h6 => unfold chkEs at h6; cases h6
        | [y, z], .cons e1 .nil, _, h6 => simp [chkEs] at h6
        | [y, z], .cons e1 (.cons e2 (.cons e3 es)), _, h6 => simp [chkEs] at h6
      have e := dec h4
      cases lt with
      | true =>
        have e : n = "list" := e
        subst e
        exact fin (r_rngL g.calm hg1 hm1 hg2 hm2 rge (starEach1 rfl [] X.env)) rfl
      | false =>
        have e : n = "tuple" := e
        subst e
        exact fin (r_rngT g.calm hg1 hm1 hg2 hm2 rge (starEach1 rfl [] X.env)) rfl
    · cases h
  | .mth o a as, S, W, X, t, x, g, h => by
    unfold chkE at h
    split at h
    · rename_i l m apos xs pos
      obtain ⟨h, h8⟩ := and2 h
      obtain ⟨h, h7⟩ := and2 h
      obtain ⟨h, h6⟩ := and2 h
      obtain ⟨h, h5⟩ := and2 h
      obtain ⟨h, h4⟩ := and2 h
      obtain ⟨h, h3⟩ := and2 h
      obtain ⟨h1, h2⟩ := and2 h
      have e := dec h1
      subst e
      cases xs with
      | nil => cases h4
      | cons y ys =>
        have h5' := h5
        rw [List.all_cons, Bool.and_eq_true] at h5
        exact fin (r_mth g.hu (okE a S W X false _ g h3) (okEs as S W X _ g h5' h8) (base_of h2 _ X.env _) (few_of h5' (dec h6) pos X.env) h7 (starEach1 h5.1 ys X.env) (backs h5.2 _ X.env)) rfl
    · cases h
  | .app a e, S, W, X, t, x, g, h => by
    unfold chkE at h
    split at h
    · obtain ⟨h, h6⟩ := and2 h
      obtain ⟨h, h5⟩ := and2 h
      obtain ⟨h, h4⟩ := and2 h
      obtain ⟨h, h3⟩ := and2 h
      obtain ⟨h1, h2⟩ := and2 h
      have e1 := dec h1
      subst e1
      exact fin (r_app (okE a S W X false _ g h3) (okE e S W X false _ g h6) (base_of h2 _ X.env _) (few_of (by simpa using h4) (by show 1 < 30; decide) _ X.env) h5 (starEach1 h4 [] X.env) rfl) rfl
    · cases h
  | .ext a e, S, W, X, t, x, g, h => by
    unfold chkE at h
    split at h
    · obtain ⟨h, h6⟩ := and2 h
      obtain ⟨h, h5⟩ := and2 h
      obtain ⟨h, h4⟩ := and2 h
      obtain ⟨h, h3⟩ := and2 h
      obtain ⟨h1, h2⟩ := and2 h
      have e1 := dec h1
      subst e1
      exact fin (r_ext (okE a S W X false _ g h3) (okE e S W X false _ g h6) (base_of h2 _ X.env _) (few_of (by simpa using h4) (by show 1 < 30; decide) _ X.env) h5 (starEach1 h4 [] X.env) rfl) rfl
    · cases h
  | .pop a, S, W, X, t, x, g, h => by
    unfold chkE at h
    split at h
    · obtain ⟨h, h4⟩ := and2 h
      obtain ⟨h, h3⟩ := and2 h
      obtain ⟨h1, h2⟩ := and2 h
      have e1 := dec h1
      subst e1
      exact fin (r_pop (okE a S W X false _ g h3) (base_of h2 _ X.env _) h4) rfl
    · cases h
  | .ppi a e, S, W, X, t, x, g, h => by
    unfold chkE at h
    split at h
    · obtain ⟨h, h6⟩ := and2 h
      obtain ⟨h, h5⟩ := and2 h
      obtain ⟨h, h4⟩ := and2 h
      obtain ⟨h, h3⟩ := and2 h
      obtain ⟨h1, h2⟩ := and2 h
      have e1 := dec h1
      subst e1
      exact fin (r_ppi (okE a S W X false _ g h3) (okE e S W X false _ g h6) (base_of h2 _ X.env _) (few_of (by simpa using h4) (by show 1 < 30; decide) _ X.env) h5 (starEach1 h4 [] X.env) rfl) rfl
    · cases h
  | .isi a ty, S, W, X, t, x, g, h => by
    unfold chkE at h
    split at h
    · rename_i n p l m p2 pos
      obtain ⟨h, h6⟩ := and2 h
      obtain ⟨h, h5⟩ := and2 h
      obtain ⟨h, h4⟩ := and2 h
      obtain ⟨h, h3⟩ := and2 h
      obtain ⟨h1, h2⟩ := and2 h
      obtain ⟨hg1, hm1⟩ := blt_of g h1
      obtain ⟨hg2, hm2⟩ := blt_of g h2
      have e1 := dec h3
      subst e1
      have no : ∀ c, ty ≠ .own c := fun c e => by subst e; cases h4
      have hm : m = (tyName ty : Str) := by
        cases ty <;> first | exact dec h4 | exact absurd rfl (no _)
      subst hm
      obtain ⟨b1, b2, b3⟩ := ty_boot ty no
      exact fin (r_isi hg1 hm1 (okE a S W X false _ g h6) hg2 hm2 b1 b2 b3 (starEach1 h5 _ X.env) (starEach1 rfl [] X.env) rfl) rfl
    · cases h
  | .lc own elt tg it c gg, S, W, X, t, x, g, h => by
    unfold chkE at h
    split at h
    · rename_i y l i ifs a gs scope pos
      obtain ⟨h, h9⟩ := and2 h
      obtain ⟨h, h8⟩ := and2 h
      obtain ⟨h, h7⟩ := and2 h
      obtain ⟨h, h6⟩ := and2 h
      obtain ⟨h, h5⟩ := and2 h
      obtain ⟨h, h4⟩ := and2 h
      obtain ⟨h, h3⟩ := and2 h
      obtain ⟨h1, h2⟩ := and2 h
      have e1 := dec h1
      subst e1
      refine fin (r_fro (r_lcX g (elt := y) h2 h3 h4 (okI it S W X l i g h5) fun s H C cl fp => ?_) gl_lc) rfl
      have gb := g.blk scope s H C cl fp
      exact ⟨okT tg _ _ _ _ gb h6, okC c _ _ _ _ gb h7, fun Dl => okG gg _ _ gs gb rfl y (allG l i ifs gs) scope pos 1 elt Dl (fun j => by rw [Nat.add_comm]; rfl) h8 (okE elt _ _ _ false _ gb h9)⟩
    · cases h
  | .mut e, S, W, X, t, x, g, h => by
    unfold chkE at h
    obtain ⟨h1, h2, h3⟩ := okF e S W X x g h
    exact fin (r_mut h1 h2) h3
  | .dct _ _ _, _, _, _, _, _, _, h => by unfold chkE at h; cases h
  | .rev _, _, _, _, _, _, _, h => by unfold chkE at h; cases h
  | .ckw _ _ _, _, _, _, _, _, _, h => by unfold chkE at h; cases h
  | .mk _ _ _, _, _, _, _, _, _, h => by unfold chkE at h; cases h
  | .om _ _ _ _ _, _, _, _, _, _, _, h => by unfold chkE at h; cases h
  | .fld _ _ _, _, _, _, _, _, _, h => by unfold chkE at h; cases h
  | .frz _, _, _, _, _, _, _, h => by unfold chkE at h; cases h
theorem okF : ∀ (e : E) (S : Sx) (W : WX) (X : Cx) (x : Expr), Good S fx W X → chkF S e x = true → PE X x (tFr X.K fx W e) ∧ GivesL fx e ∧ isPlainT x = true
  | .lst es, S, W, X, x, g, h => by
    unfold chkF at h
    split at h
    · obtain ⟨h1, h2⟩ := and2 h
      exact ⟨r_lstF (okEs es S W X _ g h1 h2), gl_lst, rfl⟩
    · cases h
  | .lc own elt tg it c gg, S, W, X, x, g, h => by
    unfold chkF at h
    split at h
    · rename_i y l i ifs a gs scope pos
      obtain ⟨h, h9⟩ := and2 h
      obtain ⟨h, h8⟩ := and2 h
      obtain ⟨h, h7⟩ := and2 h
      obtain ⟨h, h6⟩ := and2 h
      obtain ⟨h, h5⟩ := and2 h
      obtain ⟨h, h4⟩ := and2 h
      obtain ⟨h, h3⟩ := and2 h
      obtain ⟨h1, h2⟩ := and2 h
      have e1 := dec h1
      subst e1
      refine ⟨r_lcX g (elt := y) h2 h3 h4 (okI it S W X l i g h5) fun s H C cl fp => ?_, gl_lc, rfl⟩
      have gb := g.blk scope s H C cl fp
      exact ⟨okT tg _ _ _ _ gb h6, okC c _ _ _ _ gb h7, fun Dl => okG gg _ _ gs gb rfl y (allG l i ifs gs) scope pos 1 elt Dl (fun j => by rw [Nat.add_comm]; rfl) h8 (okE elt _ _ _ false _ gb h9)⟩
    · cases h
  | .var _, _, _, _, _, _, h => by unfold chkF at h; cases h
  | .cst _, _, _, _, _, _, h => by unfold chkF at h; cases h
  | .glo _ _, _, _, _, _, _, h => by unfold chkF at h; cases h
  | .tup _, _, _, _, _, _, h => by unfold chkF at h; cases h
  | .dct _ _ _, _, _, _, _, _, h => by unfold chkF at h; cases h
  | .mut _, _, _, _, _, _, h => by unfold chkF at h; cases h
  | .bop _ _ _, _, _, _, _, _, h => by unfold chkF at h; cases h
  | .neg _, _, _, _, _, _, h => by unfold chkF at h; cases h
  | .cmp _ _ _, _, _, _, _, _, h => by unfold chkF at h; cases h
  | .chn _ _ _ _ _, _, _, _, _, _, h => by unfold chkF at h; cases h
  | .ch3 _ _ _ _ _ _ _, _, _, _, _, _, h => by unfold chkF at h; cases h
  | .and _ _, _, _, _, _, _, h => by unfold chkF at h; cases h
  | .or _ _, _, _, _, _, _, h => by unfold chkF at h; cases h
  | .not _, _, _, _, _, _, h => by unfold chkF at h; cases h
  | .ite _ _ _, _, _, _, _, _, h => by unfold chkF at h; cases h
  | .ix _ _, _, _, _, _, _, h => by unfold chkF at h; cases h
  | .sl _ _ _, _, _, _, _, _, h => by unfold chkF at h; cases h
  | .rev _, _, _, _, _, _, h => by unfold chkF at h; cases h
  | .call _ _, _, _, _, _, _, h => by unfold chkF at h; cases h
  | .ckw _ _ _, _, _, _, _, _, h => by unfold chkF at h; cases h
  | .mk _ _ _, _, _, _, _, _, h => by unfold chkF at h; cases h
  | .om _ _ _ _ _, _, _, _, _, _, h => by unfold chkF at h; cases h
  | .fld _ _ _, _, _, _, _, _, h => by unfold chkF at h; cases h
  | .blt o as, S, W, X, x, g, h => by
    unfold chkF at h
    split at h
    · split at h
      · rename_i n p xs pos
        obtain ⟨h, h5⟩ := and2 h
        obtain ⟨h, h4⟩ := and2 h
        obtain ⟨h, h3⟩ := and2 h
        obtain ⟨h1, h2⟩ := and2 h
        obtain ⟨hg, hm⟩ := blt_of g h1
        have e1 := dec h2
        subst e1
        cases xs with
        | nil => cases h3
        | cons y ys =>
          have hs := h4
          rw [List.all_cons, Bool.and_eq_true] at hs
          exact ⟨r_listF hg hm (okEs as S W X _ g h4 h5) (starEach1 hs.1 ys X.env) (backs hs.2 pos X.env), gl_list, rfl⟩
      · cases h
    · cases h
  | .rng _ _, _, _, _, _, _, h => by unfold chkF at h; cases h
  | .mth _ _ _, _, _, _, _, _, h => by unfold chkF at h; cases h
  | .app _ _, _, _, _, _, _, h => by unfold chkF at h; cases h
  | .ext _ _, _, _, _, _, _, h => by unfold chkF at h; cases h
  | .pop _, _, _, _, _, _, h => by unfold chkF at h; cases h
  | .ppi _ _, _, _, _, _, _, h => by unfold chkF at h; cases h
  | .isi _ _, _, _, _, _, _, h => by unfold chkF at h; cases h
  | .frz _, _, _, _, _, _, h => by unfold chkF at h; cases h
theorem okEs : ∀ (es : Es) (S : Sx) (W : WX) (X : Cx) (xs : List Expr), Good S fx W X → xs.all noStar = true → chkEs S es xs = true → PA X xs (tEs X.K fx W es)
  | .nil, S, W, X, xs, g, hs, h => by
    cases xs with
    | nil => exact r_nil
    | cons y ys => unfold chkEs at h; cases h
  | .cons e es, S, W, X, xs, g, hs, h => by
    unfold chkEs at h
    split at h
    · obtain ⟨h1, h2⟩ := and2 h
      rw [List.all_cons, Bool.and_eq_true] at hs
      exact r_cons (okE e S W X false _ g h1) (okEs es S W X _ g hs.2 h2) (starEach1 hs.1 _ X.env)
    · cases h
theorem okP : ∀ (es : Es) (S : Sx) (W : WX) (X : Cx) (o : Option Expr), Good S fx W X → chkP S es o = true → PO X o (tO X.K fx W es)
  | .nil, S, W, X, o, g, h => by
    cases o with
    | none => exact r_ptN
    | some y => unfold chkP at h; cases h
  | .cons e es, S, W, X, o, g, h => by
    unfold chkP at h
    split at h
    · exact r_ptS (okE e S W X false _ g h)
    · cases h
theorem okC : ∀ (es : Es) (S : Sx) (W : WX) (X : Cx) (xs : List Expr), Good S fx W X → chkC S es xs = true → PTs X xs (tTs X.K fx W es)
  | .nil, S, W, X, xs, g, h => by
    cases xs with
    | nil => exact r_tnil
    | cons y ys => unfold chkC at h; cases h
  | .cons e es, S, W, X, xs, g, h => by
    unfold chkC at h
    split at h
    · exact r_tone (okE e S W X true _ g h)
    · cases h
theorem okI : ∀ (it : Rs.It) (S : Sx) (W : WX) (X : Cx) (l x : Expr), Good S fx W X → chkI S it l x = true → PI X l x (tI X.K fx W it)
  | .of e, S, W, X, l, x, g, h => by
    unfold chkI at h
    exact r_of (okE e S W X false _ g h)
  | .rng es, S, W, X, l, x, g, h => by
    unfold chkI at h
    split at h
    · rename_i n p xs pos
      obtain ⟨h, h5⟩ := and2 h
      obtain ⟨h, h4⟩ := and2 h
      obtain ⟨h, h3⟩ := and2 h
      obtain ⟨h1, h2⟩ := and2 h
      obtain ⟨hg, hm⟩ := blt_of g h1
      have e1 := dec h2
      subst e1
      have ha := okEs es S W X xs g h3 h4
      match xs, es, h3, h4, ha with
      | [y], .cons e1 .nil, h3, h4, ha =>
        rw [List.all_cons, Bool.and_eq_true] at h3
        exact r_rng1 hg hm ha (starEach1 h3.1 [] X.env)
      | [y, z], .cons e1 (.cons e2 .nil), h3, h4, ha =>
        rw [List.all_cons, Bool.and_eq_true] at h3
        have h32 := h3.2
        rw [List.all_cons, Bool.and_eq_true] at h32
        exact r_rng2 hg hm ha (by rw [starEach1 h3.1, starEach1 h32.1]; rfl) (starEach1 h32.1 [] X.env)
      | [y, z, w], .cons e1 (.cons e2 (.cons e3 .nil)), h3, h4, ha =>
        rw [List.all_cons, Bool.and_eq_true] at h3
        exact r_rng3 hg hm ha (starEach1 h3.1 _ X.env) (backs h3.2 _ X.env)
      | [], _, _, _, _ => cases h5
      | _ :: _ :: _ :: _ :: _, _, _, _, _ => simp at h5
      | [y], .nil, _, h6, _ => unfold chkEs at h6; cases h6
      | [y], .cons e1 (.cons e2 es), _, h6, _ => simp [chkEs] at h6
      | [y, z], .nil, _, h6, _ => unfold chkEs at h6; cases h6
      | [y, z], .cons e1 .nil, _, h6, _ => simp [chkEs] at h6
      | [y, z], .cons e1 (.cons e2 (.cons e3 es)), _, h6, _ => simp [chkEs] at h6
      | [y, z, w], .nil, _, h6, _ => unfold chkEs at h6; cases h6
      | [y, z, w], .cons e1 .nil, _, h6, _ => simp [chkEs] at h6
      | [y, z, w], .cons e1 (.cons e2 .nil), _, h6, _ => simp [chkEs] at h6
      | [y, z, w], .cons e1 (.cons e2 (.cons e3 (.cons e4 es))), _, h6, _ => simp [chkEs] at h6
    · cases h
  | .enu e, S, W, X, l, x, g, h => by
    unfold chkI at h
    split at h
    · rename_i elts kk tpos n p y pos
      obtain ⟨h, h4⟩ := and2 h
      obtain ⟨h, h3⟩ := and2 h
      obtain ⟨h1, h2⟩ := and2 h
      obtain ⟨hg, hm⟩ := blt_of g h1
      have e1 := dec h2
      subst e1
      exact r_enuA hg hm (r_cons (okE e S W X false _ g h4) r_nil (starEach1 h3 [] X.env)) (starEach1 h3 [] X.env)
    · cases h
  | .zip a b, S, W, X, l, x, g, h => by
    unfold chkI at h
    split at h
    · rename_i elts kk tpos n p y z pos
      obtain ⟨h, h6⟩ := and2 h
      obtain ⟨h, h5⟩ := and2 h
      obtain ⟨h, h4⟩ := and2 h
      obtain ⟨h, h3⟩ := and2 h
      obtain ⟨h1, h2⟩ := and2 h
      obtain ⟨hg, hm⟩ := blt_of g h1
      have e1 := dec h2
      subst e1
      exact r_zip hg hm (r_cons (okE a S W X false _ g h5) (r_cons (okE b S W X false _ g h6) r_nil (starEach1 h4 [] X.env)) (starEach1 h3 [z] X.env)) (starEach1 h3 [z] X.env) (backs (by simpa using h4) pos X.env)
    · cases h
  | .items _, _, _, _, _, _, _, h => by unfold chkI at h; cases h
theorem okG : ∀ (gg : Gs) (S : Sx) (B : Cx) (gs : List Comprehension), Good S fx W0 B → B.xe = (fun _ _ => False) → ∀ (elt : Expr) (gens : List Comprehension) (scope : Scope) (pos : Pos) (k : Nat) (elt' : E) (Dl : Addr), (∀ j, gens[k + j]? = gs[j]?) → chkG S gg gs = true → PE B elt (tE B.K fx W0 elt') →
    Lv B Dl elt gens scope pos k (slG gg) (evGs fx gg fun e S => (evE fx elt' e S).bind fun x S => .ok [x] S)
  | .nil, S, B, gs, g, hx, elt, gens, scope, pos, k, elt', Dl, hk, h, he => by
    cases gs with
    | nil => exact lv_last (hk 0) hx he
    | cons y ys => unfold chkG at h; cases h
  | .cons tg it c gg, S, B, gs, g, hx, elt, gens, scope, pos, k, elt', Dl, hk, h, he => by
    unfold chkG at h
    split at h
    · rename_i l i ifs a gs
      obtain ⟨h, h6⟩ := and2 h
      obtain ⟨h, h5⟩ := and2 h
      obtain ⟨h, h4⟩ := and2 h
      obtain ⟨h, h3⟩ := and2 h
      obtain ⟨h1, h2⟩ := and2 h
      have e1 := dec h1
      subst e1
      refine lv_mid (hk 0) hx g.calm (okI it S W0 B l i g h3) (okT tg S W0 B l g h4) (okC c S W0 B ifs g h5) (noSet_of h2 B.env) (okG gg S B gs g hx elt gens scope pos (k + 1) elt' Dl (fun j => ?_) h6 he)
      have := hk (j + 1)
      rw [List.getElem?_cons_succ] at this
      rw [← this]
      congr 1
      omega
    · cases h
theorem okT : ∀ (t : Tg) (S : Sx) (W : WX) (X : Cx) (x : Expr), Good S fx W X → chkT S t x = true → PG X x (tG X.K fx W t)
  | .nm i, S, W, X, x, g, h => by
    unfold chkT at h
    split at h
    · obtain ⟨h, h3⟩ := and2 h
      obtain ⟨h1, h2⟩ := and2 h
      refine r_gnm g.nd (by rw [g.N]; exact dec h1) (g.loc h2) ?_
      rw [Bool.or_eq_true] at h3
      exact h3.elim (fun z => .inl (g.fn _ z)) fun z => .inr (g.pl z)
    · cases h
  | .tup ts, S, W, X, x, g, h => by
    unfold chkT at h
    split at h
    · rename_i xs k p
      obtain ⟨h1, h2⟩ := and2 h
      obtain ⟨h3, h4⟩ := okTs ts S W X xs g h1 h2
      exact r_gtup g.calm h3 (asgEach_len xs X.env) (asgEach_idx h1 X.env) h4
    · cases h
  | .sub o i, S, W, X, x, g, h => by
    unfold chkT at h
    split at h
    · obtain ⟨h, h3⟩ := and2 h
      obtain ⟨h1, h2⟩ := and2 h
      exact r_gsub (okE o S W X false _ g h1) (okE i S W X false _ g h2) (assign_sub h3 _ _ X.env)
    · cases h
  | .fld _ _ _, _, _, _, _, _, h => by unfold chkT at h; cases h
theorem okTs : ∀ (ts : Tgs) (S : Sx) (W : WX) (X : Cx) (xs : List Expr), Good S fx W X → xs.all noStar = true → chkTs S ts xs = true → PGs X xs (tGs X.K fx W ts) ∧ tgsLen ts = xs.length
  | .nil, S, W, X, xs, g, hs, h => by
    cases xs with
    | nil => exact ⟨r_gnil, rfl⟩
    | cons y ys => unfold chkTs at h; cases h
  | .cons t ts, S, W, X, xs, g, hs, h => by
    unfold chkTs at h
    split at h
    · obtain ⟨h1, h2⟩ := and2 h
      rw [List.all_cons, Bool.and_eq_true] at hs
      obtain ⟨h3, h4⟩ := okTs ts S W X _ g hs.2 h2
      exact ⟨okTs_cons hs.1 (okT t S W X _ g h1) h3, by unfold tgsLen; rw [List.length_cons, h4]⟩
    · cases h
end
end
end Rs
end

section
set_option Elab.async false
set_option linter.all false
set_option maxRecDepth 100000
set_option maxHeartbeats 4000000
set_option autoImplicit false
/-! RsChk4: the check of statements, and that it is sound. Own work. -/
namespace Rs
open PySem PySem.Spec PyProof.Rows L2

/-- which names a pair's stores exchange; none: the model doesn't say -/
def swN (sc : Scope) (ts vs : List Expr) : Option (Option (List Str)) :=
  if (!(ts.length == 2 || ts.length == 3) || vs.length != ts.length) = true then some none
  else if (vs.all noStar) = false then some none
  else if ((ts.filterMap fun
    | .Name id pos => if sc.names.lookup id == some .local && pos.line == (ts.head?.map (·.pos.line)).getD 0 then some id else none
    | _ => none).length != ts.length || (ts.filterMap fun
    | .Name id pos => if sc.names.lookup id == some .local && pos.line == (ts.head?.map (·.pos.line)).getD 0 then some id else none
    | _ => none).eraseDups.length != (ts.filterMap fun
    | .Name id pos => if sc.names.lookup id == some .local && pos.line == (ts.head?.map (·.pos.line)).getD 0 then some id else none
    | _ => none).length) = true then some none
  else if vs.all (foldedForSure 8) = true then some none
  else if vs.all (constantsAlone 8) = true then none
  else some (some (ts.filterMap fun
    | .Name id pos => if sc.names.lookup id == some .local && pos.line == (ts.head?.map (·.pos.line)).getD 0 then some id else none
    | _ => none))
theorem any_star (vs : List Expr) : (vs.any fun | .Starred .. => true | _ => false) = !vs.all noStar := by
  induction vs with
  | nil => rfl
  | cons v vs ih =>
    rw [List.any_cons, List.all_cons, ih]
    cases v <;> simp [noStar]
theorem swN_ok {env : Env} (hk : env.scope.kind = .function) {ts vs : List Expr} {kt k2 : Nat} {pt pt2 : Pos} {r : Option (List Str)} (h : swN env.scope ts vs = some r) : swappedStores [.Tuple ts kt pt] (.Tuple vs k2 pt2) env = pure r := by
  have hb : env.blockKind = .function := by unfold Env.blockKind; rw [hk]; rfl
  unfold swN at h
  unfold swappedStores
  simp only [hb]
  have hst := any_star vs
  split at h
  · rename_i c
    cases h
    rw [if_pos (by simpa using c)]
  · rename_i c
    rw [if_neg (by simpa using c)]
    split at h
    · rename_i c2
      cases h
      rw [c2] at hst
      exact if_pos hst
    · rename_i c2
      have c2' : vs.all noStar = true := by simpa using c2
      rw [c2'] at hst
      refine (if_neg (ne_true_of_eq_false hst)).trans ?_
      split at h
      · rename_i c3
        cases h
        exact if_pos c3
      · rename_i c3
        refine (if_neg c3).trans ?_
        split at h
        · rename_i c4
          cases h
          exact if_pos c4
        · rename_i c4
          refine (if_neg c4).trans ?_
          split at h
          · cases h
          · rename_i c5
            cases h
            exact if_neg c5
theorem pl_eq (env : Env) (t : Str) : (env.kindOf t == some NameKind.local) = plB env.scope t := by
  unfold plB
  show (env.scope.names.lookup t == some NameKind.local) = _
  cases env.scope.names.lookup t with
  | none => rfl
  | some k => cases k <;> rfl
theorem sw_eq {env : Env} (hk : env.scope.kind = .function) {elt : Expr} {gs : List Comprehension} {scope : Scope} {pos p : Pos} {t : Str} {l : Nat} : swapsWith (.ListComp elt gs scope pos) (some (.Name t p)) l env = pure (swB env.scope scope t p pos) := by
  have hb : env.blockKind = .function := by unfold Env.blockKind; rw [hk]; rfl
  unfold swapsWith swB
  simp only [hb, pl_eq]
  rfl
/-- no two tuples face each other -/
def noPair (tg v : Expr) : Bool := match tg with
  | .Tuple .. => match v with
    | .Tuple .. => false
    | _ => true
  | .List .. => match v with
    | .Tuple .. => false
    | _ => true
  | _ => true
theorem noPair_of {tg v : Expr} (h : noPair tg v = true) (env : Env) : swappedStores [tg] v env = pure none := by
  cases tg <;> first | rfl | (cases v <;> first | rfl | cases h)
def isNm : Expr → Bool
  | .Name .. => true
  | _ => false
/-- how the pair of a statement's sides is stored -/
def noSw (sc : Scope) (tg v : Expr) : Bool := noPair tg v || match tg, v with
  | .Tuple ts _ _, .Tuple vs _ _ => decide (swN sc ts vs = some none)
  | _, _ => false
theorem noSw_of {env : Env} (hk : env.scope.kind = .function) {tg v : Expr} (h : noSw env.scope tg v = true) : swappedStores [tg] v env = pure none := by
  unfold noSw at h
  rw [Bool.or_eq_true] at h
  rcases h with h | h
  · exact noPair_of h env
  · split at h
    · exact swN_ok hk (dec h)
    · cases h
/-- an exception's arguments: none, or a text -/
def rasA : List Expr → Bool
  | [] => true
  | [.Constant (.str _) _ _] => true
  | _ => false
mutual
def chkS (S : Sx) : C → Stmt → Bool
  | .asg t e, x => match x with
    | .Assign [tg] v pos => noStar tg && ((noComp v && noSw S.sc tg v && chkT S t tg && chkE S false e v) || (match t, tg, v with
      | .nm i, .Name n p, .ListComp y (⟨l, j, ifs, a⟩ :: gs) scope pos2 => match swB S.sc scope n p pos2 with
        | false => locB S.sc n && decide (S.N[i]? = some n) && (S.fnb n || plB S.sc n) && chkE S false e v
        | true => decide (S.N[i]? = some n) && (match e with
          | .mut (.lc own elt tg' it c g) => decide (a = 0) && noSet j && blkC S.N S.sc scope (ownOf S.N own) && sub (slT tg' ++ slG g) own && chkI S it l j && chkT (S.blk scope) tg' l && chkC (S.blk scope) c ifs && chkG (S.blk scope) g gs && chkE (S.blk scope) false elt y
          | .lc own elt tg' it c g => decide (a = 0) && noSet j && blkC S.N S.sc scope (ownOf S.N own) && sub (slT tg' ++ slG g) own && chkI S it l j && chkT (S.blk scope) tg' l && chkC (S.blk scope) c ifs && chkG (S.blk scope) g gs && chkE (S.blk scope) false elt y
          | _ => false)
      | _, _, _ => false))
    | _ => false
  | .par is es, x => match x with
    | .Assign [.Tuple ts kt pt] (.Tuple vs k2 pt2) pos => vs.all noStar && chkEs S es vs && (match is, ts, vs with
      | [i, j], [.Name n _, .Name m _], [_, _] => decide (S.N[i]? = some n) && decide (S.N[j]? = some m) && decide (i ≠ j) && plB S.sc n && plB S.sc m && decide (swN S.sc ts vs = some (some [n, m]))
      | [i, j, l], [.Name n _, .Name m _, .Name o _], [_, _, _] => decide (S.N[i]? = some n) && decide (S.N[j]? = some m) && decide (S.N[l]? = some o) && decide (i ≠ j) && decide (i ≠ l) && decide (j ≠ l) && plB S.sc n && plB S.sc m && plB S.sc o &&
        decide (swN S.sc ts vs = some (some [n, m, o]))
      | _, _, _ => false)
    | _ => false
  | .expr e, x => match x with
    | .Expr v _ => noComp v && chkE S false e v
    | _ => false
  | .ret e, x => match x with
    | .Return (some v) _ => chkE S false e v
    | _ => false
  | .retN, x => match x with
    | .Return none _ => true
    | _ => false
  | .pass, x => match x with
    | .Pass _ => true
    | _ => false
  | .brk, x => match x with
    | .Break _ => true
    | _ => false
  | .cnt, x => match x with
    | .Continue _ => true
    | _ => false
  | .ite c a b, x => match x with
    | .If v p q _ => chkE S true c v && chkSs S a p && chkSs S b q
    | _ => false
  | .whl c b, x => match x with
    | .While v p [] _ => chkE S true c v && chkSs S b p
    | _ => false
  | .fr t it b, x => match x with
    | .For tg i p [] _ => noSet i && chkI S it tg i && chkT S t tg && chkSs S b p
    | _ => false
  | .ras n, x => match x with
    | .Raise (some (.Call (.Name m _) as [] _)) none _ => decide (n = m) && glB S.sc m && m != dbg && rasA as && match S.G m with
      | some .exc => true
      | _ => false
    | _ => false
  | .tri _ _ _ _, _ => false
def chkSs (S : Sx) : Cs → List Stmt → Bool
  | .nil, xs => xs.isEmpty
  | .cons c cs, xs => match xs with
    | y :: ys => chkS S c y && chkSs S cs ys
    | [] => false
end
/-- what holds where a def's body runs -/
structure GoodS (S : Sx) (fx : Fx) (W : WX) (X : Cx) : Prop extends Good S fx W X where
  kind : X.env.scope.kind = .function
  pass : PassesOwn (model X.prog X.w) X.A X.env X.xe
  exc : ∀ x, S.G x = some .exc → Gl X x → (x == dbg) = false → ∀ (p pos2 : Pos) (as : List Expr), rasA as = true → PMk X (.Call (.Name x p) as [] pos2) (fun _ H Q => Q (.ref (He.ga X.K x)) none H)
section
variable {fx : Fx}
mutual
theorem okS : ∀ (c : C) (S : Sx) (W : WX) (X : Cx) (x : Stmt), GoodS S fx W X → chkS S c x = true → PS X x (tS X.K fx W c)
  | .asg t e, S, W, X, x, g, h => by
    unfold chkS at h
    split at h
    · rename_i tg v pos
      have h0 := (and2 h).1
      replace h := (and2 h).2
      rw [Bool.or_eq_true] at h
      rcases h with h | h
      · obtain ⟨h, h4⟩ := and2 h
        obtain ⟨h, h3⟩ := and2 h
        obtain ⟨h1, h2⟩ := and2 h
        rw [← g.sc] at h2
        exact s_asg (okE e S W X false v g.toGood h4) (okT t S W X tg g.toGood h3) (noComp_of h1 _ _ X.env) (noSw_of g.kind h2) (by rw [asgEach1 h0]; rfl)
      · split at h
        · rename_i i n p y l j ifs a gs scope pos2
          split at h
          · rename_i hsw
            obtain ⟨h, h4⟩ := and2 h
            obtain ⟨h, h3⟩ := and2 h
            obtain ⟨h1, h2⟩ := and2 h
            rw [← g.sc] at hsw
            refine s_asg (okE e S W X false _ g.toGood h4) (okT (.nm i) S W X _ g.toGood (by unfold chkT; simp only [h1, h2, h3, Bool.and_self])) ?_ (noPair_of rfl X.env) rfl
            unfold swapsWithSole
            exact (sw_eq g.kind).trans (by rw [hsw])
          · rename_i hsw
            have h1 := (and2 h).1
            replace h := (and2 h).2
            have hsw' := hsw
            rw [← g.sc] at hsw
            have sw : swapsWith (.ListComp y (⟨l, j, ifs, a⟩ :: gs) scope pos2) (some (.Name n p)) pos.line X.env = pure true := by rw [sw_eq g.kind, hsw]
            have hpl : plB S.sc n = true := by
              unfold swB at hsw'
              rw [Bool.and_eq_true, Bool.and_eq_true] at hsw'
              exact hsw'.1.1
            split at h
            · rename_i own elt tg' it c gg
              obtain ⟨h, h9⟩ := and2 h
              obtain ⟨h, h8⟩ := and2 h
              obtain ⟨h, h7⟩ := and2 h
              obtain ⟨h, h6⟩ := and2 h
              obtain ⟨h, h5⟩ := and2 h
              obtain ⟨h, h4⟩ := and2 h
              obtain ⟨h, h3⟩ := and2 h
              obtain ⟨h0, h2⟩ := and2 h
              have e1 := dec h0
              subst e1
              have r := s_setLc (i := i) (py := p) (spos := pos) (own := ownOf S.N own) (fx := fx) (W := W) (elt' := elt) (t' := tg') (it' := it) (c' := c) (g' := gg) g.calm g.nd (by rw [g.N]; exact dec h1) (g.pl hpl) sw (okI it S W X l j g.toGood h5) (blkOk_by (by rw [g.N, g.sc]; exact h3))
                (fun s H C cl fp => by
                  have gb := g.toGood.blk scope s H C cl fp
                  exact ⟨okT tg' _ _ _ _ gb h6, okC c _ _ _ _ gb h7, fun Dl => okG gg _ _ gs gb rfl y (allG l j ifs gs) scope pos2 1 elt Dl (fun j => by rw [Nat.add_comm]; rfl) h8 (okE elt _ _ _ false _ gb h9)⟩)
                (fun j hj => by rw [ownOf_ix]; exact sub_of h4 j hj) (noSet_of h2 X.env)
              rw [ownOf_ix] at r
              exact s_setM r gl_lc
            · rename_i own elt tg' it c gg
              obtain ⟨h, h9⟩ := and2 h
              obtain ⟨h, h8⟩ := and2 h
              obtain ⟨h, h7⟩ := and2 h
              obtain ⟨h, h6⟩ := and2 h
              obtain ⟨h, h5⟩ := and2 h
              obtain ⟨h, h4⟩ := and2 h
              obtain ⟨h, h3⟩ := and2 h
              obtain ⟨h0, h2⟩ := and2 h
              have e1 := dec h0
              subst e1
              have r := s_setLc (i := i) (py := p) (spos := pos) (own := ownOf S.N own) (fx := fx) (W := W) (elt' := elt) (t' := tg') (it' := it) (c' := c) (g' := gg) g.calm g.nd (by rw [g.N]; exact dec h1) (g.pl hpl) sw (okI it S W X l j g.toGood h5) (blkOk_by (by rw [g.N, g.sc]; exact h3))
                (fun s H C cl fp => by
                  have gb := g.toGood.blk scope s H C cl fp
                  exact ⟨okT tg' _ _ _ _ gb h6, okC c _ _ _ _ gb h7, fun Dl => okG gg _ _ gs gb rfl y (allG l j ifs gs) scope pos2 1 elt Dl (fun j => by rw [Nat.add_comm]; rfl) h8 (okE elt _ _ _ false _ gb h9)⟩)
                (fun j hj => by rw [ownOf_ix]; exact sub_of h4 j hj) (noSet_of h2 X.env)
              rw [ownOf_ix] at r
              exact s_setF r gl_lc
            · cases h
        · cases h
    · cases h
  | .par is es, S, W, X, x, g, h => by
    unfold chkS at h
    split at h
    · rename_i ts kt pt vs k2 pt2 pos
      obtain ⟨h, h3⟩ := and2 h
      obtain ⟨h1, h2⟩ := and2 h
      have ha := okEs es S W X vs g.toGood h1 h2
      split at h3
      · obtain ⟨h, k6⟩ := and2 h3
        obtain ⟨h, k5⟩ := and2 h
        obtain ⟨h, k4⟩ := and2 h
        obtain ⟨h, k3⟩ := and2 h
        obtain ⟨k1, k2⟩ := and2 h
        have k6 := dec k6
        rw [← g.sc] at k6
        exact s_par2 g.calm g.nd (by rw [g.N]; exact dec k1) (by rw [g.N]; exact dec k2) (dec k3) (g.pl k4) (g.pl k5) ha (swN_ok g.kind k6) rfl
      · obtain ⟨h, k10⟩ := and2 h3
        obtain ⟨h, k9⟩ := and2 h
        obtain ⟨h, k8⟩ := and2 h
        obtain ⟨h, k7⟩ := and2 h
        obtain ⟨h, k6⟩ := and2 h
        obtain ⟨h, k5⟩ := and2 h
        obtain ⟨h, k4⟩ := and2 h
        obtain ⟨h, k3⟩ := and2 h
        obtain ⟨k1, k2⟩ := and2 h
        have k10 := dec k10
        rw [← g.sc] at k10
        exact s_par3 g.calm g.nd (by rw [g.N]; exact dec k1) (by rw [g.N]; exact dec k2) (by rw [g.N]; exact dec k3) (dec k4) (dec k5) (dec k6) (g.pl k7) (g.pl k8) (g.pl k9) ha (swN_ok g.kind k10) rfl
      · cases h3
    · cases h
  | .expr e, S, W, X, x, g, h => by
    unfold chkS at h
    split at h
    · obtain ⟨h1, h2⟩ := and2 h
      exact s_expr (okE e S W X false _ g.toGood h2) (noComp_of h1 _ _ X.env)
    · cases h
  | .ret e, S, W, X, x, g, h => by
    unfold chkS at h
    split at h
    · exact s_ret (okE e S W X false _ g.toGood h)
    · cases h
  | .retN, S, W, X, x, g, h => by
    unfold chkS at h
    split at h
    · exact s_retN
    · cases h
  | .pass, S, W, X, x, g, h => by
    unfold chkS at h
    split at h
    · exact s_pass
    · cases h
  | .brk, S, W, X, x, g, h => by
    unfold chkS at h
    split at h
    · exact s_brk
    · cases h
  | .cnt, S, W, X, x, g, h => by
    unfold chkS at h
    split at h
    · exact s_cnt
    · cases h
  | .ite c a b, S, W, X, x, g, h => by
    unfold chkS at h
    split at h
    · obtain ⟨h, h3⟩ := and2 h
      obtain ⟨h1, h2⟩ := and2 h
      exact s_ite (okE c S W X true _ g.toGood h1) (okSs a S W X _ g h2) (okSs b S W X _ g h3)
    · cases h
  | .whl c b, S, W, X, x, g, h => by
    unfold chkS at h
    split at h
    · obtain ⟨h1, h2⟩ := and2 h
      exact s_whl g.pass (okE c S W X true _ g.toGood h1) (okSs b S W X _ g h2)
    · cases h
  | .fr t it b, S, W, X, x, g, h => by
    unfold chkS at h
    split at h
    · obtain ⟨h, h4⟩ := and2 h
      obtain ⟨h, h3⟩ := and2 h
      obtain ⟨h1, h2⟩ := and2 h
      exact s_for g.pass g.calm (okI it S W X _ _ g.toGood h2) (okT t S W X _ g.toGood h3) (okSs b S W X _ g h4) (noSet_of h1 X.env)
    · cases h
  | .ras n, S, W, X, x, g, h => by
    unfold chkS at h
    split at h
    · obtain ⟨h, h5⟩ := and2 h
      obtain ⟨h, h4⟩ := and2 h
      obtain ⟨h, h3⟩ := and2 h
      obtain ⟨h1, h2⟩ := and2 h
      have e := dec h1
      subst e
      split at h5
      · rename_i e2
        exact s_ras g.calm g.tk (g.exc _ e2 (g.gl h2) (ne_of_bne h3) _ _ _ h4)
      · cases h5
    · cases h
  | .tri _ _ _ _, _, _, _, _, _, h => by unfold chkS at h; cases h
theorem okSs : ∀ (cs : Cs) (S : Sx) (W : WX) (X : Cx) (xs : List Stmt), GoodS S fx W X → chkSs S cs xs = true → PSs X xs (tSs X.K fx W cs)
  | .nil, S, W, X, xs, g, h => by
    cases xs with
    | nil => exact s_nil
    | cons y ys => unfold chkSs at h; cases h
  | .cons c cs, S, W, X, xs, g, h => by
    unfold chkSs at h
    split at h
    · obtain ⟨h1, h2⟩ := and2 h
      exact s_cons (okS c S W X _ g h1) (okSs cs S W X _ g h2)
    · cases h
end
end
end Rs
end

section
set_option Elab.async false
set_option linter.all false
set_option maxRecDepth 100000
set_option maxHeartbeats 2000000
set_option autoImplicit false
/-! RsDef: defs keep what the evaluator says. Own work over HandS. -/
namespace Rs
open PySem PySem.Spec PyProof.Rows L2

/-! ### back from a def: what it made is forgotten, or frozen -/
def Ads.cut (A : Ads) (n : Nat) : Ads := { A with c := A.c.take n }
section
variable {K : PySem.W.Frag} {A A' : Ads} {H H' : Hp} {S S' : Store} {n : Nat}
theorem cut_live {a : Addr} (h : (A.cut n).live a) : A.live a := by
  rcases h with h | h
  · exact .inl (List.mem_of_mem_take h)
  · exact .inr h
theorem cut_get {k : Nat} (h : k < n) : (A.cut n).c[k]? = A.c[k]? := by
  show (A.c.take n)[k]? = _
  rw [List.getElem?_take]
  rw [if_pos h]
theorem below_all {m : Nat} (ih : ∀ d v, below n m d = true → Rp K H A d v → Rp K H (A.cut n) d v) : ∀ (xs : List D) (vs : List V), xs.all (below n m) = true → Rps K H A xs vs → Rps K H (A.cut n) xs vs
  | [], vs, _, r => by unfold Rps at r ⊢; exact r
  | x :: xs, vs, h, r => by
    rw [List.all_cons, Bool.and_eq_true] at h
    obtain ⟨v, w, rfl, r1, r2⟩ := r.inv
    exact .cons (ih x v h.1 r1) (below_all ih xs w h.2 r2)
theorem below_rp : ∀ (m : Nat) (d : D) (v : V), below n m d = true → Rp K H A d v → Rp K H (A.cut n) d v
  | 0, d, v, h, _ => by cases d <;> cases h
  | m + 1, d, v, h, r => by
    cases d with
    | non => exact r
    | bl b => exact r
    | int i => exact r
    | str i => exact r
    | tup xs =>
      unfold Rp at r ⊢
      obtain ⟨a, vs, e, q, r⟩ := r
      exact ⟨a, vs, e, q, below_all (below_rp m) xs vs h r⟩
    | lst xs =>
      unfold Rp at r ⊢
      obtain ⟨a, vs, e, q, nl, r⟩ := r
      exact ⟨a, vs, e, q, fun z => nl (cut_live z), below_all (below_rp m) xs vs h r⟩
    | dct kvs => cases h
    | ref k =>
      have hk : k < n := of_decide_eq_true h
      unfold Rp at r ⊢
      rw [cut_get hk]
      exact r
    | exc c => unfold Rp at r; exact r.elim
    | scr ns =>
      unfold Rp at r ⊢
      obtain ⟨a, e, q⟩ := r
      refine ⟨a, e, ?_⟩
      rcases q with ⟨q, nl⟩ | q
      · exact .inl ⟨q, fun z => nl (cut_live z)⟩
      · exact .inr q
theorem cell_below {c : Cell} {a : Addr} (h : cellBelow n c = true) (r : CellR K H A a c) : CellR K H (A.cut n) a c := by
  cases c with
  | lst xs =>
    obtain ⟨vs, q, r⟩ := r
    exact ⟨vs, q, below_all (below_rp DEP) xs vs h r⟩
  | dct kvs => cases h
  | dead => trivial
  | ins c fs =>
    obtain ⟨dx, gs, q, hl, r⟩ := r
    refine ⟨dx, gs, q, hl, fun f => ?_⟩
    have z := r f
    cases e : fs.lookup f with
    | none => rw [e] at z; exact z
    | some d =>
      rw [e] at z
      obtain ⟨v, e1, r1⟩ := z
      refine ⟨v, e1, below_rp DEP d v ?_ r1⟩
      have hm : (f, d) ∈ fs := PySem.mem_of_lookup e
      exact List.all_eq_true.mp h (f, d) hm
theorem SR.cut (s : SR K H A S) (hn : n ≤ S.length) (h : (S.take n).all (cellBelow n) = true) : SR K H (A.cut n) (S.take n) := by
  refine ⟨by show (A.c.take n).length = _; rw [List.length_take, List.length_take, s.len], fun i j a h1 h2 => ?_, fun k c a b e1 e2 => ?_, fun a ha => ?_⟩
  · have hi : i < n := by
      have := (List.getElem?_eq_some_iff.mp h1).1
      have h0 : (A.cut n).c.length = min n A.c.length := List.length_take
      omega
    have hj : j < n := by
      have := (List.getElem?_eq_some_iff.mp h2).1
      have h0 : (A.cut n).c.length = min n A.c.length := List.length_take
      omega
    rw [cut_get hi] at h1
    rw [cut_get hj] at h2
    exact s.one i j a h1 h2
  · have hk : k < n := by
      have := (List.getElem?_eq_some_iff.mp e1).1
      rw [List.length_take] at this
      omega
    have e1' : S[k]? = some c := by
      rw [List.getElem?_take, if_pos hk] at e1
      exact e1
    rw [cut_get hk] at e2
    obtain ⟨h1, h2⟩ := s.at_ k c a b e1' e2
    exact ⟨h1, cell_below (List.all_eq_true.mp h c (List.mem_of_getElem? e1)) h2⟩
  · obtain ⟨h1, h2⟩ := s.mak a ha
    exact ⟨h1, fun z => h2 (List.mem_of_mem_take z)⟩
theorem Ext.cut (x : Ext A H A' H') (hn : A.c.length = n) : Ext A H (A'.cut n) H' where
  rd := x.rd
  ls := x.ls
  pre := fun k a b h => by
    have hk : k < n := by rw [← hn]; exact (List.getElem?_eq_some_iff.mp h).1
    rw [cut_get hk]
    exact x.pre k a b h
  new := fun a h => x.new a (cut_live h)
  own := x.own
  ow := x.ow
theorem fz_all {m : Nat} (ih : ∀ d d' v, fzD S n m d = some d' → Rp K H A d v → Rp K H (A.cut n) d' v) : ∀ (xs ys : List D) (vs : List V), xs.mapM (fzD S n m) = some ys → Rps K H A xs vs → Rps K H (A.cut n) ys vs
  | [], ys, vs, h, r => by
    rw [List.mapM_nil] at h
    cases h
    unfold Rps at r ⊢
    exact r
  | x :: xs, ys, vs, h, r => by
    rw [List.mapM_cons] at h
    cases e1 : fzD S n m x with
    | none => rw [e1] at h; cases h
    | some y =>
      rw [e1] at h
      cases e2 : xs.mapM (fzD S n m) with
      | none => rw [e2] at h; cases h
      | some zs =>
        rw [e2] at h
        cases h
        obtain ⟨v, w, rfl, r1, r2⟩ := r.inv
        exact .cons (ih x y v e1 r1) (fz_all ih xs zs w e2 r2)
theorem fz_rp (s : SR K H A S) : ∀ (m : Nat) (d d' : D) (v : V), fzD S n m d = some d' → Rp K H A d v → Rp K H (A.cut n) d' v
  | 0, d, d', v, h, _ => by cases d <;> cases h
  | m + 1, d, d', v, h, r => by
    cases d with
    | non => cases h; exact r
    | bl b => cases h; exact r
    | int i => cases h; exact r
    | str i => cases h; exact r
    | tup xs =>
      obtain ⟨ys, h1, rfl⟩ := Option.map_eq_some_iff.mp (show (xs.mapM (fzD S n m)).map .tup = some d' from h)
      unfold Rp at r ⊢
      obtain ⟨a, vs, e, q, r⟩ := r
      exact ⟨a, vs, e, q, fz_all (fz_rp s m) xs ys vs h1 r⟩
    | lst xs =>
      obtain ⟨ys, h1, rfl⟩ := Option.map_eq_some_iff.mp (show (xs.mapM (fzD S n m)).map .lst = some d' from h)
      unfold Rp at r ⊢
      obtain ⟨a, vs, e, q, nl, r⟩ := r
      exact ⟨a, vs, e, q, fun z => nl (cut_live z), fz_all (fz_rp s m) xs ys vs h1 r⟩
    | dct kvs => cases h
    | ref k =>
      have h : (if k < n then some (.ref k) else match S[k]? with
        | some (.lst xs) => (xs.mapM (fzD S n m)).map .lst
        | _ => none) = some d' := h
      split at h
      · rename_i hk
        cases h
        unfold Rp at r ⊢
        rw [cut_get hk]
        exact r
      · rename_i hk
        split at h
        · rename_i xs eS
          obtain ⟨ys, h1, rfl⟩ := Option.map_eq_some_iff.mp h
          obtain ⟨a, b, ha, rfl⟩ := r.ref
          obtain ⟨a', ha', hc⟩ := s.get eS rfl
          rw [ha] at ha'
          cases ha'
          obtain ⟨vs, hH, hv⟩ := hc
          unfold Rp
          refine ⟨a, vs, rfl, hH, fun z => ?_, fz_all (fz_rp s m) xs ys vs h1 hv⟩
          rcases z with z | z
          · obtain ⟨j, hj⟩ := List.getElem?_of_mem z
            have hjn : j < n := by
              have := (List.getElem?_eq_some_iff.mp hj).1
              have h0 : (A.cut n).c.length = min n A.c.length := List.length_take
              omega
            rw [cut_get hjn] at hj
            have := s.one _ _ _ ha hj
            omega
          · exact (s.mak a z).2 (List.mem_of_getElem? ha)
        · cases h
    | exc c => cases h
    | scr ns =>
      cases h
      unfold Rp at r ⊢
      obtain ⟨a, e, q⟩ := r
      refine ⟨a, e, ?_⟩
      rcases q with ⟨q, nl⟩ | q
      · exact .inl ⟨q, fun z => nl (cut_live z)⟩
      · exact .inr q
end
theorem envR_start {K : PySem.W.Frag} {H : Hp} {A : Ads} {N : List Str} {ds : List D} {vs : List V} (r : Rps K H A ds vs) : EnvR K H A (ds.map some ++ List.replicate (N.length - ds.length) none) (L2.start N vs) := by
  have hl := r.length
  unfold L2.start
  refine ⟨by simp [hl], fun i d e => ?_⟩
  by_cases hi : i < ds.length
  · rw [List.getElem?_append_left (by simpa using hi), List.getElem?_map] at e
    obtain ⟨d', e1, e2⟩ := Option.map_eq_some_iff.mp e
    cases e2
    obtain ⟨v, ev, rv⟩ := r.get e1
    refine ⟨v, ?_, rv⟩
    rw [List.getElem?_append_left (by rw [List.length_map, ← hl]; exact hi), List.getElem?_map, ev]
    rfl
  · rw [List.getElem?_append_right (by simpa using hi), List.getElem?_replicate] at e
    split at e <;> cases e
/-- a call's result from its body's -/
theorem body_call {K : PySem.W.Frag} {fx : Fx} {fn : Fn} {ds : List D} {S : Store} {A : Ads} {H : Hp} {E : XK} {Q : VK} {N : List Str} (hn : N.length = fn.nn) (hS : SR K H A S)
    (h : RP K (fun c d _ H => E c d H) [] A H (callFn fx fn ds S) Q) : ds.length = fn.np ∧ RSt K (fun c d _ H => E c d H) A H (evCs fx fn.body (ds.map some ++ List.replicate (N.length - ds.length) none) S) { nx := fun _ H' => Q .non H', rt := Q } := by
  unfold callFn at h
  split at h
  · rename_i hl
    refine ⟨hl, ?_⟩
    rw [← hn] at h
    cases r : evCs fx fn.body (ds.map some ++ List.replicate (N.length - ds.length) none) S with
    | bad => rw [r] at h; exact h.elim
    | exc c env S' =>
      rw [r] at h
      simp only [] at h
      split at h
      · exact fun σ' H' A' x s _ => h A' H' x s
      · split at h
        · rename_i hb
          intro σ' H' A' x s _
          have hl : S.length ≤ S'.length := by
            rw [← hS.len, ← s.len]
            apply Nat.le_of_not_lt
            intro hlt
            obtain ⟨b', z⟩ := x.pre A'.c.length _ _ (List.getElem?_eq_getElem hlt)
            rw [List.getElem?_eq_none (Nat.le_refl _)] at z
            cases z
          exact h (A'.cut S.length) H' (x.cut hS.len) (s.cut hl hb)
        · exact h.elim
    | ok f S' =>
      rw [r] at h
      have key : ∀ d : D, RP K (fun c d _ H => E c d H) [] A H (if fn.keep = true then .ok d S' else match fzD S' S.length DEP d with
          | some d' => if (S'.take S.length).all (cellBelow S.length) then .ok d' (S'.take S.length) else .bad
          | none => .bad) Q → Out K A H S' d Q := by
        intro d h v H' A' x s rv
        split at h
        · exact h v H' A' x s rv
        · split at h
          · rename_i d' e
            split at h
            · rename_i hb
              have hl : S.length ≤ S'.length := by
                rw [← hS.len, ← s.len]
                apply Nat.le_of_not_lt
                intro hlt
                obtain ⟨b', z⟩ := x.pre A'.c.length _ _ (List.getElem?_eq_getElem hlt)
                rw [List.getElem?_eq_none (Nat.le_refl _)] at z
                cases z
              exact h v H' (A'.cut S.length) (x.cut hS.len) (s.cut hl hb) (fz_rp s DEP d d' v e rv)
            · exact h.elim
          · exact h.elim
      cases f with
      | rt d => exact key d h
      | nx env => exact fun σ' H' A' x s _ => key .non h .non H' A' x s rp_non
      | bk env => exact h.elim
      | ct env => exact h.elim
  · exact h.elim
end Rs
end

section
set_option Elab.async false
set_option linter.all false
set_option maxRecDepth 100000
set_option maxHeartbeats 2000000
set_option autoImplicit false
/-! RsLib: a table of defs keeps what the evaluator says; the head that finds them. Own work over HandS. -/
namespace Rs
open PySem PySem.Spec PyProof.Rows L2

/-- a def of the text, its names, its term -/
structure DefR where
  d : He.DefD
  N : List Str
  ps : List Str
  fn : Fn
structure DefOk (G : Str → Option GK) (r : DefR) : Prop where
  sc : FnScope r.N r.ps r.d.scope
  chk : chkSs ⟨r.N, r.d.scope, fun _ => true, G⟩ r.fn.body r.d.body = true
  np : r.ps.length = r.fn.np
  nn : r.N.length = r.fn.nn
  dfl : r.d.dfl = []
  kwd : r.d.kwd = []
  at_ : r.d.at_ = (r.d.name, none)
  binds : ∀ (kV doc pm : Value) (an : Option Addr) (cdv ct : Value) (us : List Value), us.length = r.ps.length → bindArgs (PySem.W.fnOf r.d.name r.d.qual r.d.params r.d.body r.d.scope .none kV doc pm an cdv ct) ⟨us, []⟩ = pure (r.ps.zip us)
/-- what is known of the module -/
structure Fct (K : PySem.W.Frag) (mg : Str → Option Value) (G : Str → Option GK) (rs : List DefR) : Prop where
  sm : SysM K
  blt : ∀ x, G x = some .blt → mg x = none
  int : ∀ x i, G x = some (.int i) → ∃ t, mg x = some (.int i t)
  str : ∀ x i, G x = some (.str i) → ∃ t, mg x = some (.str i t)
  exc : ∀ x, G x = some .exc → mg x = some (.ref (He.ga K x)) ∧ (∃ bm, PySem.W.excIn K (He.ga K x) bm "ValueError.__new__" = true ∧ (∃ B newId initId, ExcBaseFacts B newId initId bm ∧ newId = "ValueError.__new__")) ∧ PySem.W.keepIn K (.ref (He.ga K x)) = true ∧
    PySem.W.subIn K (.ref (He.ga K x)) (.type "BaseException") = some true ∧ PySem.W.typeIn K (.ref (He.ga K x)) = some (.type "type")
  fns : ∀ x i, G x = some (.fn i) → ∃ r fd, rs[i]? = some r ∧ r.d.name = x ∧ mg x = some (.ref (He.ga K x)) ∧ FunD K r.d.name r.d.qual r.d.params r.d.body r.d.scope [] [] (He.ga K x) fd
section
variable {P : Program} {w : World} {K : PySem.W.Frag} {mg : Str → Option Value} {base : Heap} {G : Str → Option GK} {rs : List DefR} {sub : Str → Str → Option Bool}
theorem bindsAll_of {r : DefR} (o : DefOk G r) {f : Addr} {fd : FuncData} (F : FunD K r.d.name r.d.qual r.d.params r.d.body r.d.scope [] [] f fd) : BindsAll K fd r.ps := by
  obtain ⟨oc, od, dV, kV, doc, pm, an, cdv, ct, osl, rfl, lk, hcd, hD, hK⟩ := F.ex
  rcases hD with ⟨_, rfl⟩ | ⟨e, _⟩
  · exact fun us hl => o.binds kV doc pm an cdv ct us hl
  · exact absurd rfl e
theorem all_G (ok : ∀ r ∈ rs, DefOk G r) (F : Fct K mg G rs) : ∀ (k i : Nat) (r : DefR) (f : Addr) (fd : FuncData), rs[i]? = some r → FunD K r.d.name r.d.qual r.d.params r.d.body r.d.scope [] [] f fd →
    GOk P w K mg base k f fd r.ps (spR K (run (rs.map (·.fn)) sub k i))
  | 0, i, r, f, fd, hi, D => by
    refine ⟨fun vs H Q E h => ?_, fun A out s H args us vs Q E hr hgd e0 hb rv h => ?_⟩
    · obtain ⟨ds, A, S, r1, s1, h1⟩ := h
      unfold run at h1
      exact h1.elim
    · obtain ⟨ds, A, S, r1, s1, h1⟩ := h
      unfold run at h1
      exact h1.elim
  | k + 1, i, r, f, fd, hi, D => by
    have o := ok r (List.mem_of_getElem? hi)
    have hT : (rs.map (·.fn))[i]? = some r.fn := by rw [List.getElem?_map, hi]; rfl
    have conv : ∀ {vs : List V} {H : Hp} {Q : VK} {E : XK}, spR K (run (rs.map (·.fn)) sub (k + 1) i) vs H Q E → ∃ ds A S, Rps K H A ds vs ∧ SR K H A S ∧ RP K (fun c d _ H => E c d H) [] A H (callFn ⟨run (rs.map (·.fn)) sub k, sub⟩ r.fn ds S) Q := by
      rintro vs H Q E ⟨ds, A, S, r1, s1, h1⟩
      unfold run at h1
      rw [hT] at h1
      exact ⟨ds, A, S, r1, s1, h1⟩
    refine def_G D o.sc (fun vs H Q E h => ?_) (fun cd A out s H vs Q E hr hgd h => ?_)
    · obtain ⟨ds, A, S, r1, s1, h1⟩ := conv h
      rw [← r1.length, (body_call o.nn s1 h1).1, o.np]
    · obtain ⟨ds, A1, S, r1, s1, h1⟩ := conv h
      refine ⟨tSs K ⟨run (rs.map (·.fn)) sub k, sub⟩ (fun c d _ H => E c d H) r.fn.body, ?_, ⟨_, A1, S, envR_start r1, s1, (body_call o.nn s1 h1).2⟩⟩
      refine okSs (fx := ⟨run (rs.map (·.fn)) sub k, sub⟩) r.fn.body ⟨r.N, r.d.scope, fun _ => true, G⟩ _ _ _ ?_ o.chk
      refine ⟨⟨rfl, o.sc.nd, rfl, fun _ _ => rfl, rfl, ?_, hgd, takes_of rfl rfl rfl rfl, F.sm, F.blt, F.int, F.str, fun x j hx => ?_⟩, o.sc.kind, passes_of rfl, fun x hx hg hd p pos2 as has => ?_⟩
      · have := hr.un
        show (A.deeper _).units + 65 < cLine
        omega
      · obtain ⟨r2, fd2, h2, h3, h4, h5⟩ := F.fns x j hx
        have o2 := ok r2 (List.mem_of_getElem? h2)
        exact ⟨k, _, fd2, r2.ps, all_G ok F k j r2 _ fd2 h2 h5, hr, h4, h5.kp, bindsAll_of o2 h5⟩
      · obtain ⟨e1, ⟨bm, e2, B, newId, initId, e3, rfl⟩, e4, e5, e6⟩ := F.exc x hx
        unfold rasA at has
        split at has
        · exact pmk_own0 e3 e2 e1 e4 (raises_own e5 e6) hg hd
        · exact pmk_own e3 e2 e1 e4 (raises_own e5 e6) hg hd
        · cases has
end

/-! ### the head's hook, with the table of modules -/
def asR (g : Addr → Option Obj) (n : Nat) : List Addr := sysModules :: He.asG g n
def smB (K : PySem.W.Frag) : Bool := match K.lookup sysModules with
  | some ⟨.type c, _, _, _⟩ => decide (c = "dict")
  | _ => false
def obsR (fa : List He.Fa) (fn : List He.DefD) (K : PySem.W.Frag) : He.AlD := (smB K && ((fa.all fun f => f.ok K) && fn.all fun d => d.ok K), fn.map fun d => He.fnW K d.at_)
def SaysR (fa : List He.Fa) (fn : List He.DefD) (K : PySem.W.Frag) : Prop := obsR fa fn K = He.valD fn
def obsRG (n : Nat) (fa : List He.Fa) (fn : List He.DefD) (g : Addr → Option Obj) : He.AlD := obsR fa fn (He.frG g (asR g n))
def hookR (n : Nat) (fa : List He.Fa) (fn : List He.DefD) : PySem.W.Hook where
  α := He.AlD
  obs := fun s => obsRG n fa fn s.heap.get?
  val := fun _ => He.valD fn
  says := fun _ h => ∃ K : PySem.W.Frag, K.In h ∧ SaysR fa fn K
  of := fun _ _ e => ⟨_, He.frG_in, e⟩
  keeps := fun _ _ _ ⟨K, hK, c⟩ k => ⟨K, PySem.W.Frag.In.keeps hK k, c⟩
theorem obsRG_eq {n : Nat} {fa : List He.Fa} {fn : List He.DefD} {g : Addr → Option Obj} {s : Shared} (h : ∀ a, g a = s.heap.get? a) : obsRG n fa fn g = (hookR n fa fn).obs s := by
  have e : g = s.heap.get? := funext h
  rw [e] <;> rfl
section
variable {fa : List He.Fa} {fn : List He.DefD} {K : PySem.W.Frag}
theorem SaysR.all (c : SaysR fa fn K) : smB K = true ∧ (∀ f ∈ fa, f.ok K = true) ∧ ∀ d ∈ fn, d.ok K = true := by
  have h : (smB K && ((fa.all fun f => f.ok K) && fn.all fun d => d.ok K)) = true := congrArg (fun z : He.AlD => z.1) c
  obtain ⟨h1, h⟩ := and2 h
  obtain ⟨h2, h3⟩ := and2 h
  exact ⟨h1, List.all_eq_true.mp h2, List.all_eq_true.mp h3⟩
theorem SaysR.def_ (c : SaysR fa fn K) {d : He.DefD} (h : d ∈ fn) : ∃ fd, FunD K d.name d.qual d.params d.body d.scope (d.dvs K) (d.kws K) (He.fAd K d.at_) fd := by
  have e : fn.map (fun d => He.fnW K d.at_) = fn.map He.DefD.val := congrArg (fun z : He.AlD => z.2) c
  obtain ⟨i, hi⟩ := List.getElem?_of_mem h
  have e2 : (fn.map fun d => He.fnW K d.at_)[i]? = (fn.map He.DefD.val)[i]? := by rw [e]
  rw [List.getElem?_map, List.getElem?_map, hi] at e2
  exact He.DefD.funD (Option.some.inj e2) (c.all.2.2 d h)
theorem SaysR.sm (c : SaysR fa fn K) : SysM K := by
  have h := c.all.1
  unfold smB at h
  split at h
  · rename_i t d dt sl e
    exact ⟨_, e, congrArg Value.type (dec h)⟩
  · cases h
end
/-- what the module's names are, as a list -/
def gOf (l : List (Str × GK)) : Str → Option GK := fun x => l.lookup x
def faOf : Str × GK → He.Fa
  | (x, .blt) => .free x
  | (x, .int i) => .int x i
  | (x, .str z) => .str x z
  | (x, .fn _) => .glo x
  | (x, .exc) => .glo x
def isExc : Str × GK → Bool
  | (_, .exc) => true
  | _ => false
/-- the facts that the hook is to tell -/
def fasOf (l : List (Str × GK)) : List He.Fa := l.map faOf ++ (l.filter isExc).map fun p => .exc p.1
def fnIx (rs : List DefR) : Str × GK → Bool
  | (x, .fn i) => match rs[i]? with
    | some r => decide (r.d.name = x)
    | none => false
  | _ => true
theorem fct_of {l : List (Str × GK)} {rs : List DefR} {K : PySem.W.Frag} {h : Heap} {mg : Str → Option Value} (X : K.In h) (G : h.Ns mainGlobals mg) (c : SaysR (fasOf l) (rs.map (·.d)) K) (ok : ∀ r ∈ rs, DefOk (gOf l) r) (hix : l.all (fnIx rs) = true) : Fct K mg (gOf l) rs := by
  obtain ⟨c1, c2, c3⟩ := c.all
  have mem : ∀ {x : Str} {k : GK}, gOf l x = some k → (x, k) ∈ l := fun e => PySem.mem_of_lookup e
  have fact : ∀ {x : Str} {k : GK}, gOf l x = some k → (faOf (x, k)).ok K = true := fun e => c2 _ (List.mem_append_left _ (List.mem_map_of_mem (mem e)))
  refine ⟨c.sm, fun x e => He.free_ok X G (fact e), fun x i e => He.int_ok X G (fact e), fun x i e => He.str_ok X G (fact e), fun x e => ?_, fun x i e => ?_⟩
  · have q : (He.Fa.exc x).ok K = true := c2 _ (List.mem_append_right _ (List.mem_map.mpr ⟨(x, .exc), List.mem_filter.mpr ⟨mem e, rfl⟩, rfl⟩))
    obtain ⟨q1, q2, q3, q4⟩ := He.exc_ok q
    exact ⟨He.glo_ok X G (fact e), ⟨_, q1, _, _, _, PySem.F.excBase_ValueError, rfl⟩, q2, q3, q4⟩
  · have q := List.all_eq_true.mp hix _ (mem e)
    unfold fnIx at q
    cases hr : rs[i]? with
    | none => simp only [hr] at q; cases q
    | some r =>
      simp only [hr] at q
      have hn : r.d.name = x := dec q
      have o := ok r (List.mem_of_getElem? hr)
      obtain ⟨fd, F⟩ := c.def_ (d := r.d) (List.mem_map_of_mem (List.mem_of_getElem? hr))
      refine ⟨r, fd, rfl, hn, He.glo_ok X G (fact e), ?_⟩
      have e1 : r.d.dvs K = [] := by unfold He.DefD.dvs; rw [o.dfl]; rfl
      have e2 : r.d.kws K = [] := by unfold He.DefD.kws; rw [o.kwd]; rfl
      have e3 : He.fAd K r.d.at_ = He.ga K x := by rw [o.at_, hn]; rfl
      rw [e1, e2, e3] at F
      exact F

/-- the law's promise, of a script -/
theorem sp_law {K : PySem.W.Frag} {r : List D → Store → R D} {H : Hp} {a : Addr} {ns : List Int} {S' : Store} (hS : SqL K H a (ns.map V.int)) (h : r [.scr ns] [] = .ok (.bl true) S') : spR K r [.ref a] H (fun v _ => v = .bl true) fun _ _ _ => False := by
  refine ⟨[.scr ns], ⟨[], []⟩, [], .cons ?_ .nil, ⟨rfl, fun i j b h1 _ => by simp at h1, fun k c b t h1 _ => by simp at h1, fun b hb => by simp at hb⟩, ?_⟩
  · unfold Rp
    refine ⟨a, rfl, ?_⟩
    rcases hS with hS | hS
    · refine .inl ⟨hS, fun z => ?_⟩
      rcases z with z | z <;> simp at z
    · exact .inr fun H' => .inr hS
  · rw [h]
    exact fun v H' A' _ _ r => r.bl
/-- a law of the table -/
def Says (T : List Fn) (sub : Str → Str → Option Bool) (k i n : Nat) : Prop := ∀ ns : List Int, ns.length ≤ n → (∀ i ∈ ns, Builtin.Int.intBits i ≤ 1048576) → ∃ S, run T sub k i [.scr ns] [] = .ok (.bl true) S
theorem table_F {P : Program} {l : List (Str × GK)} {rs : List DefR} {sub : Str → Str → Option Bool} {k i n : Nat} {x : Str} {r : DefR} (ok : ∀ r ∈ rs, DefOk (gOf l) r) (hix : l.all (fnIx rs) = true) (hl : gOf l r.d.name = some (.fn i)) (hr : rs[i]? = some r) (hp : r.ps = [x]) (says : Says (rs.map (·.fn)) sub k i n)
    (w : World) (mg : Str → Option Value) (fa : Addr) (h : Heap) (Y : ∃ K : PySem.W.Frag, K.In h ∧ SaysR (fasOf l) (rs.map (·.d)) K) (hG : h.Ns mainGlobals mg) (hm : mg r.d.name = some (.ref fa)) :
    ∃ (K : PySem.W.Frag) (fd : FuncData) (sp : Sp), K.In h ∧ (∀ (s : Shared) (u : Value), BindsTo s fd ⟨[u], []⟩ [(x, u)]) ∧
      (∀ (H : Hp) (a : Addr) (ns : List Int), ns.length ≤ n → (∀ i ∈ ns, Builtin.Int.intBits i ≤ 1048576) → Only H → SqL K H a (ns.map V.int) → sp [.ref a] H (fun v _ => v = .bl true) fun _ _ _ => False) ∧
      ∀ base : Heap, K.In base → base.Ns mainGlobals mg → GOk P w K mg base k fa fd [x] sp := by
  obtain ⟨K, kin, c⟩ := Y
  have F := fct_of kin hG c ok hix
  obtain ⟨r2, fd, h2, h3, h4, h5⟩ := F.fns _ _ hl
  rw [hr] at h2
  cases h2
  have e : fa = He.ga K r.d.name := by
    rw [hm] at h4
    cases h4
    rfl
  subst e
  have o := ok r (List.mem_of_getElem? hr)
  have b := bindsAll_of o h5
  refine ⟨K, fd, spR K (run (rs.map (·.fn)) sub k i), kin, fun s u => ?_, fun H a ns hn hb _ hS => ?_, fun base hB hN => ?_⟩
  · have z := b.to (s := s) (us := [u]) (by rw [hp]; rfl)
    rw [hp] at z
    exact z
  · obtain ⟨S', e⟩ := says ns hn hb
    exact sp_law hS e
  · have g := all_G (P := P) (w := w) (base := base) (sub := sub) ok F k i r _ fd hr h5
    rw [hp] at g
    exact g
end Rs
end

section
set_option Elab.async false
set_option linter.all false
set_option maxRecDepth 100000
set_option maxHeartbeats 1000000
set_option autoImplicit false
/-! RsPure: plain lemmas on the evaluator: calls, loops, the drawing pen. Own work. -/
namespace Rs
open PySem

/-- a store whose cells name no cell beyond -/
def OKS (S : Store) : Prop := S.all (cellBelow S.length) = true
/-- data without cells, not too deep -/
def cln : Nat → D → Bool
  | 0, _ => false
  | m + 1, .tup xs => xs.all (cln m)
  | m + 1, .lst xs => xs.all (cln m)
  | _, .dct _ => false
  | _, .ref _ => false
  | _, .exc _ => false
  | _, _ => true
theorem cln_map {S : Store} {n m : Nat} (ih : ∀ d, cln m d = true → fzD S n m d = some d) : ∀ xs : List D, xs.all (cln m) = true → xs.mapM (fzD S n m) = some xs
  | [], _ => rfl
  | x :: xs, h => by
    rw [List.all_cons, Bool.and_eq_true] at h
    rw [List.mapM_cons, ih x h.1, cln_map ih xs h.2]
    rfl
theorem fz_cln {S : Store} {n : Nat} : ∀ (m : Nat) (d : D), cln m d = true → fzD S n m d = some d
  | 0, d, h => by cases d <;> cases h
  | m + 1, d, h => by
    cases d with
    | tup xs => show (xs.mapM (fzD S n m)).map D.tup = _; rw [cln_map (fz_cln m) xs h]; rfl
    | lst xs => show (xs.mapM (fzD S n m)).map D.lst = _; rw [cln_map (fz_cln m) xs h]; rfl
    | dct kvs => cases h
    | ref k => cases h
    | exc c => cases h
    | _ => rfl
/-- a def is called; the store it leaves is as long -/
theorem call_ok {T : List Fn} {sub : Str → Str → Option Bool} {k i : Nat} {fn : Fn} {ds : List D} {S S' : Store} {d : D} (hT : T[i]? = some fn) (hl : ds.length = fn.np) (hk : fn.keep = false) (hs : OKS S') (hlen : S'.length = S.length) (hd : cln DEP d = true)
    (h : evCs ⟨run T sub k, sub⟩ fn.body (ds.map some ++ List.replicate (fn.nn - ds.length) none) S = .ok (.rt d) S') : run T sub (k + 1) i ds S = .ok d S' := by
  unfold run
  rw [hT]
  show callFn _ fn ds S = _
  unfold callFn
  rw [if_pos hl, h]
  simp only [hk, ↓reduceIte, Bool.false_eq_true]
  rw [fz_cln DEP d hd]
  have e : S'.take S.length = S' := by rw [← hlen]; exact List.take_length
  rw [e, ← hlen]
  exact if_pos hs
theorem call_non {T : List Fn} {sub : Str → Str → Option Bool} {k i : Nat} {fn : Fn} {ds : List D} {S S' : Store} {env : Nv} (hT : T[i]? = some fn) (hl : ds.length = fn.np) (hk : fn.keep = false) (hs : OKS S') (hlen : S'.length = S.length)
    (h : evCs ⟨run T sub k, sub⟩ fn.body (ds.map some ++ List.replicate (fn.nn - ds.length) none) S = .ok (.nx env) S') : run T sub (k + 1) i ds S = .ok .non S' := by
  unfold run
  rw [hT]
  show callFn _ fn ds S = _
  unfold callFn
  rw [if_pos hl, h]
  simp only [hk, ↓reduceIte, Bool.false_eq_true]
  have e : S'.take S.length = S' := by rw [← hlen]; exact List.take_length
  rw [e, ← hlen]
  exact if_pos hs

theorem call_keep {T : List Fn} {sub : Str → Str → Option Bool} {k i : Nat} {fn : Fn} {ds : List D} {S S' : Store} {d : D} (hT : T[i]? = some fn) (hl : ds.length = fn.np) (hk : fn.keep = true)
    (h : evCs ⟨run T sub k, sub⟩ fn.body (ds.map some ++ List.replicate (fn.nn - ds.length) none) S = .ok (.rt d) S') : run T sub (k + 1) i ds S = .ok d S' := by
  unfold run
  rw [hT]
  show callFn _ fn ds S = _
  unfold callFn
  rw [if_pos hl, h]
  simp only [hk, ↓reduceIte]
/-! ### the pen -/
def b_draw : Cs := (.cons (.ite (.cmp .gt (.ix (.var 0) (.cst (.int 0))) (.cst (.int 0))) (.cons (.asg (.nm 3) (.bop .mod (.ix (.var 0) (.cst (.int 0))) (.var 1))) (.cons (.asg (.sub (.var 0) (.cst (.int 0))) (.bop .fdiv (.ix (.var 0) (.cst (.int 0))) (.var 1))) (.cons (.ret (.var 3)) .nil))) .nil) (.cons (.asg (.sub (.var 0) (.cst (.int 2))) (.bop .add (.ix (.var 0) (.cst (.int 2))) (.cst (.int 1)))) (.cons (.asg (.sub (.var 0) (.cst (.int 1))) (.bop .mod (.bop .add (.bop .add (.bop .mul (.ix (.var 0) (.cst (.int 1))) (.cst (.int 48271))) (.bop .mul (.cst (.int 1009)) (.ix (.var 0) (.cst (.int 2))))) (.cst (.int 7))) (.cst (.int 2147483647)))) (.cons (.asg (.nm 2) (.bop .mod (.bop .add (.bop .add (.bop .mul (.ix (.var 0) (.cst (.int 1))) (.ix (.var 0) (.cst (.int 1)))) (.bop .mul (.cst (.int 69621)) (.ix (.var 0) (.cst (.int 1))))) (.cst (.int 11))) (.cst (.int 2147483629)))) (.cons (.asg (.nm 2) (.bop .mod (.bop .add (.bop .mul (.var 2) (.var 2)) (.bop .mul (.cst (.int 40014)) (.var 2))) (.cst (.int 2147483587)))) (.cons (.ret (.bop .mod (.bop .fdiv (.var 2) (.cst (.int 16))) (.var 1))) .nil))))))
def PenAt (S : Store) (p : Nat) : Prop := ∃ a b c : Int, S[p]? = some (.lst [.int a, .int b, .int c])
structure Pn (S : Store) (p : Nat) : Prop where
  ok : OKS S
  at_ : PenAt S p
theorem oks_set {S : Store} {p : Nat} {c : Cell} (h : OKS S) (hc : ∀ n, cellBelow n c = true) : OKS (S.set p c) := by
  unfold OKS at h ⊢
  rw [List.length_set]
  rw [List.all_eq_true] at h ⊢
  intro x hx
  rcases List.mem_or_eq_of_mem_set hx with hx | rfl
  · exact h x hx
  · exact hc _
theorem pen_below (a b c : Int) (n : Nat) : cellBelow n (.lst [.int a, .int b, .int c]) = true := by
  unfold cellBelow
  rfl
theorem ix3_0 (a b c : D) (i : Int) (h : i = 0) : L2.atI [a, b, c] i = some a := by subst h; rfl
theorem mulOk_r {i j : Int} (h : -18446744073709551616 < j ∧ j < 18446744073709551616) : mulOk i j = true := by
  unfold mulOk BIG
  rw [decide_eq_true h.1, decide_eq_true h.2]
  simp
theorem mulOk_l {i j : Int} (h : -18446744073709551616 < i ∧ i < 18446744073709551616) : mulOk i j = true := by
  unfold mulOk BIG
  rw [decide_eq_true h.1, decide_eq_true h.2]
  simp
theorem draw_ok {T : List Fn} {sub : Str → Str → Option Bool} {k i p : Nat} {S : Store} {m : Int} (hT : T[i]? = some ⟨2, 4, false, b_draw⟩) (hS : Pn S p) (h0 : 0 < m) (h1 : m < 1073741824) :
    ∃ (v : Int) (S' : Store), run T sub (k + 1) i [.ref p, .int m] S = .ok (.int v) S' ∧ 0 ≤ v ∧ v < m ∧ Pn S' p ∧ S'.length = S.length := by
  obtain ⟨ok, a, b, c, hp⟩ := hS
  have hlt : p < S.length := (List.getElem?_eq_some_iff.mp hp).1
  by_cases ha : a > 0
  · refine ⟨a % m, S.set p (.lst [.int (a / m), .int b, .int c]), call_ok hT rfl rfl (oks_set ok (pen_below _ _ _)) (by simp) rfl ?_, Int.emod_nonneg _ (by omega), Int.emod_lt_of_pos _ h0, ⟨oks_set ok (pen_below _ _ _), _, _, _, List.getElem?_set_self hlt⟩, by simp⟩
    simp [b_draw, evCs, evC, evE, RS.of, R.bind, R.of, getV, bops, cops, gtO, modD, fdivD, ixD, seqOf, view, hp, truth, bindT, h0, h1, ha, L2.atI, L2.ixN]
  · have e1 : 0 ≤ (b * 48271 + 1009 * (c + 1) + 7) % 2147483647 := Int.emod_nonneg _ (by decide)
    have e2 : (b * 48271 + 1009 * (c + 1) + 7) % 2147483647 < 2147483647 := Int.emod_lt_of_pos _ (by decide)
    have h48 : mulOk b 48271 = true := mulOk_r (by decide)
    have h10 : mulOk 1009 (c + 1) = true := mulOk_l (by decide)
    have hbb := mulOk_r (i := (b * 48271 + 1009 * (c + 1) + 7) % 2147483647) (j := (b * 48271 + 1009 * (c + 1) + 7) % 2147483647) ⟨by omega, by omega⟩
    have h69 : mulOk 69621 ((b * 48271 + 1009 * (c + 1) + 7) % 2147483647) = true := mulOk_l (by decide)
    generalize hq : (b * 48271 + 1009 * (c + 1) + 7) % 2147483647 = q at e1 e2 hbb h69
    have e3 : 0 ≤ (q * q + 69621 * q + 11) % 2147483629 := Int.emod_nonneg _ (by decide)
    have e4 : (q * q + 69621 * q + 11) % 2147483629 < 2147483629 := Int.emod_lt_of_pos _ (by decide)
    have hrr := mulOk_r (i := (q * q + 69621 * q + 11) % 2147483629) (j := (q * q + 69621 * q + 11) % 2147483629) ⟨by omega, by omega⟩
    have h40 : mulOk 40014 ((q * q + 69621 * q + 11) % 2147483629) = true := mulOk_l (by decide)
    generalize hr : (q * q + 69621 * q + 11) % 2147483629 = r at e3 e4 hrr h40
    refine ⟨(r * r + 40014 * r) % 2147483587 / 16 % m, S.set p (.lst [.int a, .int q, .int (c + 1)]), call_ok hT rfl rfl (oks_set ok (pen_below _ _ _)) (by simp) rfl ?_, Int.emod_nonneg _ (by omega), Int.emod_lt_of_pos _ h0, ⟨oks_set ok (pen_below _ _ _), _, _, _, List.getElem?_set_self hlt⟩, by simp⟩
    have hset : ∀ c : Cell, (S.set p c)[p]? = some c := fun c => List.getElem?_set_self hlt
    clear hlt
    simp [b_draw, evCs, evC, evE, RS.of, R.bind, R.of, getV, bops, cops, gtO, modD, mulD, addD, fdivD, ixD, seqOf, view, hp, truth, bindT, h0, h1, ha, L2.atI, L2.ixN, hset, h48, h10, hq, hbb, h69, hr, hrr, h40, List.set_set]
end Rs
end

section
set_option Elab.async false
set_option linter.all false
set_option maxRecDepth 100000
set_option maxHeartbeats 1000000
set_option autoImplicit false
/-! RsPure2: loops and comprehensions of the evaluator, plainly. Own work. -/
namespace Rs
open PySem

theorem compL_flat {f : D → Store → R (List D)} {S : Store} (G : D → List D) : ∀ (ds : List D), (∀ d ∈ ds, f d S = .ok (G d) S) → compL f ds S = .ok (ds.flatMap G) S
  | [], _ => rfl
  | d :: ds, h => by
    unfold compL
    rw [h d List.mem_cons_self]
    simp only [compL_flat G ds fun e he => h e (List.mem_cons_of_mem _ he)]
    rfl
theorem flat_map {α β : Type} (g : α → β) : ∀ l : List α, l.flatMap (fun d => [g d]) = l.map g
  | [] => rfl
  | x :: l => by rw [List.flatMap_cons, flat_map g l]; rfl
theorem flat_filter {α β : Type} (p : α → Bool) (g : α → β) : ∀ l : List α, l.flatMap (fun d => if p d = true then [g d] else []) = (l.filter p).map g
  | [] => rfl
  | x :: l => by
    rw [List.flatMap_cons, flat_filter p g l, List.filter_cons]
    by_cases h : p x = true
    · rw [if_pos h, if_pos h]; rfl
    · rw [if_neg h, if_neg h]; rfl
theorem ev_lc {X : Fx} {own : List Nat} {elt : E} {t : Tg} {it : It} {c : Es} {g : Gs} {env : Nv} {S S1 : Store} {ds : List D} (G : D → List D) (hi : evIt X it env S = .ok ds S1)
    (h : ∀ d ∈ ds, ((bindT X t d (wipeE env own) S1).bind fun env1 S => (evTs X c env1 S).bind fun b S => match b with
      | true => evGs X g (fun e S => (evE X elt e S).bind fun x S => .ok [x] S) env1 S
      | false => .ok [] S) = .ok (G d) S1) (hl : (ds.flatMap G).length ≤ LIM) : evE X (.lc own elt t it c g) env S = .ok (.lst (ds.flatMap G)) S1 := by
  unfold evE
  rw [hi]
  show (match compL _ ds S1 with
    | .ok ds S => if ds.length ≤ LIM then R.ok (D.lst ds) S else .bad
    | _ => .bad) = _
  rw [compL_flat G ds h]
  exact if_pos hl
/-- a comprehension whose turns may change the store -/
theorem ev_lcS {X : Fx} {own : List Nat} {elt : E} {t : Tg} {it : It} {c : Es} {g : Gs} {env : Nv} {S S1 S2 : Store} {ds M : List D} (hi : evIt X it env S = .ok ds S1)
    (h : ∀ f : D → Store → R (List D), (∀ d S, f d S = (bindT X t d (wipeE env own) S).bind fun env1 S => (evTs X c env1 S).bind fun b S => if b = true then evGs X g (fun e S => (evE X elt e S).bind fun x S => .ok [x] S) env1 S else .ok [] S) → compL f ds S1 = .ok M S2)
    (hl : M.length ≤ LIM) : evE X (.lc own elt t it c g) env S = .ok (.lst M) S2 := by
  unfold evE
  rw [hi]
  show (match compL _ ds S1 with
    | .ok ds S => if ds.length ≤ LIM then R.ok (D.lst ds) S else .bad
    | _ => .bad) = _
  rw [h _ fun d S => by
    congr 1
    funext env1 S
    congr 1
    funext b S
    cases b <;> rfl]
  exact if_pos hl
/-- [elt for x in ..] -/
theorem ev_map {X : Fx} {i : Nat} {elt : E} {it : It} {env : Nv} {S S1 : Store} {ds : List D} (g : D → D) (hi : evIt X it env S = .ok ds S1) (h : ∀ d ∈ ds, evE X elt ((env.set i none).set i (some d)) S1 = .ok (g d) S1) (hl : ds.length ≤ LIM) :
    evE X (.lc [i] elt (.nm i) it .nil .nil) env S = .ok (.lst (ds.map g)) S1 := by
  have := ev_lc (X := X) (own := [i]) (elt := elt) (t := .nm i) (it := it) (c := .nil) (g := .nil) (env := env) (fun d => [g d]) hi (fun d hd => by
    unfold bindT evTs evGs
    show ((evE X elt ((env.set i none).set i (some d)) S1).bind fun x S => .ok [x] S) = _
    rw [h d hd]
    rfl) (by rw [flat_map]; simpa using hl)
  rw [flat_map] at this
  exact this
/-- [elt for x in .. if q] -/
theorem ev_filter {X : Fx} {i : Nat} {elt q : E} {it : It} {env : Nv} {S S1 : Store} {ds : List D} (p : D → Bool) (g : D → D) (hi : evIt X it env S = .ok ds S1) (hq : ∀ d ∈ ds, ∃ z, evE X q ((env.set i none).set i (some d)) S1 = .ok z S1 ∧ truth S1 z = some (p d))
    (h : ∀ d ∈ ds, p d = true → evE X elt ((env.set i none).set i (some d)) S1 = .ok (g d) S1) (hl : ds.length ≤ LIM) : evE X (.lc [i] elt (.nm i) it (.cons q .nil) .nil) env S = .ok (.lst ((ds.filter p).map g)) S1 := by
  have := ev_lc (X := X) (own := [i]) (elt := elt) (t := .nm i) (it := it) (c := .cons q .nil) (g := .nil) (env := env) (fun d => if p d = true then [g d] else []) hi (fun d hd => by
    obtain ⟨z, hz, ht⟩ := hq d hd
    unfold bindT evTs evGs
    show ((R.bind (evE X q ((env.set i none).set i (some d)) S1) fun b S => R.of (truth S b) S).bind fun b S => match b with
      | true => (evE X elt ((env.set i none).set i (some d)) S).bind fun x S => .ok [x] S
      | false => .ok [] S) = _
    rw [hz]
    show (R.bind (R.of (truth S1 z) S1) fun b S => match b with
      | true => (evE X elt ((env.set i none).set i (some d)) S).bind fun x S => .ok [x] S
      | false => .ok [] S) = _
    rw [ht]
    by_cases hp : p d = true
    · rw [hp, if_pos rfl]
      show ((evE X elt ((env.set i none).set i (some d)) S1).bind fun x S => .ok [x] S) = _
      rw [h d hd hp]
      rfl
    · have hp' : p d = false := by simpa using hp
      rw [hp', if_neg Bool.false_ne_true]
      rfl) (by rw [flat_filter, List.length_map]; exact Nat.le_trans (List.length_filter_le _ _) hl)
  rw [flat_filter] at this
  exact this
theorem bltsD_map : ∀ bs : List Bool, bltsD (bs.map .bl) = some bs
  | [] => rfl
  | b :: r => by rw [List.map_cons]; unfold bltsD; rw [bltsD_map r]; rfl
theorem intsD_map : ∀ ns : List Int, intsD (ns.map .int) = some ns
  | [] => rfl
  | b :: r => by rw [List.map_cons]; unfold intsD; rw [intsD_map r]; rfl
theorem allD_map {α : Type} (p : α → Bool) (l : List α) (S : Store) : allD S [.lst (l.map fun x => .bl (p x))] = some (.bl (l.all p)) := by
  have e : (l.map fun x => D.bl (p x)) = (l.map p).map .bl := by rw [List.map_map]; rfl
  unfold allD
  rw [e]
  show (bltsD ((l.map p).map .bl)).map _ = _
  rw [bltsD_map]
  show some (D.bl ((l.map p).all id)) = _
  congr 2
  rw [List.all_map]
  rfl
end Rs
end

section
set_option Elab.async false
set_option linter.all false
set_option maxRecDepth 100000
set_option maxHeartbeats 1000000
set_option autoImplicit false
/-! RsT: typed rules of the evaluator: what a piece of text comes to, by the values of plain Lean. Own work. -/
namespace Rs
open PySem

/-! ### encodings -/
def eT {α : Type} (e : α → D) (xs : List α) : D := .tup (xs.map e)
def eL {α : Type} (e : α → D) (xs : List α) : D := .lst (xs.map e)
def e2 {α β : Type} (a : α → D) (b : β → D) (p : α × β) : D := .tup [a p.1, b p.2]
def e3 {α β γ : Type} (a : α → D) (b : β → D) (c : γ → D) (p : α × β × γ) : D := .tup [a p.1, b p.2.1, c p.2.2]
def e4 {α β γ δ : Type} (a : α → D) (b : β → D) (c : γ → D) (d : δ → D) (p : α × β × γ × δ) : D := .tup [a p.1, b p.2.1, c p.2.2.1, d p.2.2.2]
def eO {α : Type} (e : α → D) : Option α → D
  | none => .non
  | some x => e x
def eN (_ : Unit) : D := .non
def eD (d : D) : D := d
abbrev Pen := Int × Int × Int
def penC (q : Pen) : Cell := .lst [.int q.1, .int q.2.1, .int q.2.2]

/-- clean encodings -/
def CE {α : Type} (n : Nat) (e : α → D) : Prop := ∀ x, cln n (e x) = true
theorem ce_int {n : Nat} : CE (n + 1) D.int := fun _ => rfl
theorem ce_bl {n : Nat} : CE (n + 1) D.bl := fun _ => rfl
theorem ce_str {n : Nat} : CE (n + 1) D.str := fun _ => rfl
theorem ce_N {n : Nat} : CE (n + 1) eN := fun _ => rfl
theorem ce_T {α : Type} {n : Nat} {e : α → D} (h : CE n e) : CE (n + 1) (eT e) := fun xs => by
  show (xs.map e).all (cln n) = true
  rw [List.all_map, List.all_eq_true]
  exact fun x _ => h x
theorem ce_L {α : Type} {n : Nat} {e : α → D} (h : CE n e) : CE (n + 1) (eL e) := fun xs => by
  show (xs.map e).all (cln n) = true
  rw [List.all_map, List.all_eq_true]
  exact fun x _ => h x
theorem ce_2 {α β : Type} {n : Nat} {a : α → D} {b : β → D} (h1 : CE n a) (h2 : CE n b) : CE (n + 1) (e2 a b) := fun p => by
  show ([a p.1, b p.2] : List D).all (cln n) = true
  simp [h1 p.1, h2 p.2]
theorem ce_3 {α β γ : Type} {n : Nat} {a : α → D} {b : β → D} {c : γ → D} (h1 : CE n a) (h2 : CE n b) (h3 : CE n c) : CE (n + 1) (e3 a b c) := fun p => by
  show ([a p.1, b p.2.1, c p.2.2] : List D).all (cln n) = true
  simp [h1 p.1, h2 p.2.1, h3 p.2.2]
theorem ce_4 {α β γ δ : Type} {n : Nat} {a : α → D} {b : β → D} {c : γ → D} {d : δ → D} (h1 : CE n a) (h2 : CE n b) (h3 : CE n c) (h4 : CE n d) : CE (n + 1) (e4 a b c d) := fun p => by
  show ([a p.1, b p.2.1, c p.2.2.1, d p.2.2.2] : List D).all (cln n) = true
  simp [h1 p.1, h2 p.2.1, h3 p.2.2.1, h4 p.2.2.2]
theorem ce_O {α : Type} {n : Nat} {e : α → D} (h : CE (n + 1) e) : CE (n + 1) (eO e) := fun x => by
  cases x with
  | none => rfl
  | some x => exact h x

/-- encodings under == -/
structure GE {α : Type} [DecidableEq α] (n : Nat) (e : α → D) : Prop where
  sh : ∀ x, shd n (e x) = true
  eq : ∀ x y, eqv (e x) (e y) = decide (x = y)
theorem ge_int {n : Nat} : GE (n + 1) D.int := ⟨fun _ => rfl, fun x y => by unfold eqv; by_cases h : x = y <;> simp [h]⟩
theorem ge_bl {n : Nat} : GE (n + 1) D.bl := ⟨fun _ => rfl, fun x y => by unfold eqv; cases x <;> cases y <;> rfl⟩
theorem eqvs_map {α : Type} [DecidableEq α] {e : α → D} (h : ∀ x y, eqv (e x) (e y) = decide (x = y)) : ∀ xs ys : List α, eqvs (xs.map e) (ys.map e) = decide (xs = ys)
  | [], [] => rfl
  | [], _ :: _ => rfl
  | _ :: _, [] => rfl
  | x :: xs, y :: ys => by
    rw [List.map_cons, List.map_cons]
    unfold eqvs
    rw [eqvs_map h xs ys, h x y]
    by_cases h1 : x = y <;> by_cases h2 : xs = ys <;> simp [h1, h2]
theorem ge_T {α : Type} [DecidableEq α] {n : Nat} {e : α → D} (h : GE n e) : GE (n + 1) (eT e) where
  sh := fun xs => by
    show (xs.map e).all (shd n) = true
    rw [List.all_map, List.all_eq_true]
    exact fun x _ => h.sh x
  eq := fun xs ys => by
    show eqvs (xs.map e) (ys.map e) = _
    rw [eqvs_map h.eq]
theorem ge_L {α : Type} [DecidableEq α] {n : Nat} {e : α → D} (h : GE n e) : GE (n + 1) (eL e) where
  sh := fun xs => by
    show (xs.map e).all (shd n) = true
    rw [List.all_map, List.all_eq_true]
    exact fun x _ => h.sh x
  eq := fun xs ys => by
    show eqvs (xs.map e) (ys.map e) = _
    rw [eqvs_map h.eq]
theorem ge_2 {α β : Type} [DecidableEq α] [DecidableEq β] {n : Nat} {a : α → D} {b : β → D} (h1 : GE n a) (h2 : GE n b) : GE (n + 1) (e2 a b) where
  sh := fun p => by
    show ([a p.1, b p.2] : List D).all (shd n) = true
    simp [h1.sh p.1, h2.sh p.2]
  eq := fun p q => by
    show (eqv (a p.1) (a q.1) && (eqv (b p.2) (b q.2) && true)) = _
    rw [h1.eq, h2.eq, Bool.and_true]
    by_cases h : p = q
    · subst h; simp
    · rw [decide_eq_false h]
      by_cases g1 : p.1 = q.1
      · have : ¬ p.2 = q.2 := fun z => h (Prod.ext g1 z)
        simp [this]
      · simp [g1]
theorem ge_3 {α β γ : Type} [DecidableEq α] [DecidableEq β] [DecidableEq γ] {n : Nat} {a : α → D} {b : β → D} {c : γ → D} (h1 : GE n a) (h2 : GE n b) (h3 : GE n c) : GE (n + 1) (e3 a b c) where
  sh := fun p => by
    show ([a p.1, b p.2.1, c p.2.2] : List D).all (shd n) = true
    simp [h1.sh p.1, h2.sh p.2.1, h3.sh p.2.2]
  eq := fun p q => by
    show (eqv (a p.1) (a q.1) && (eqv (b p.2.1) (b q.2.1) && (eqv (c p.2.2) (c q.2.2) && true))) = _
    rw [h1.eq, h2.eq, h3.eq, Bool.and_true]
    obtain ⟨p1, p2, p3⟩ := p
    obtain ⟨q1, q2, q3⟩ := q
    by_cases g1 : p1 = q1 <;> by_cases g2 : p2 = q2 <;> by_cases g3 : p3 = q3 <;> simp [g1, g2, g3]

/-! ### expressions -/
section
variable {X : Fx} {env : Nv} {S S1 S2 S3 : Store}
theorem ev_var {i : Nat} {d : D} (h : getV env i = some d) : evE X (.var i) env S = .ok d S := by unfold evE; rw [h]; rfl
theorem ev_cst {d : D} : evE X (.cst d) env S = .ok d S := by unfold evE; rfl
theorem ev_glo {x : Str} {d : D} : evE X (.glo x d) env S = .ok d S := by unfold evE; rfl
theorem es_nil : evEs X .nil env S = .ok [] S := by unfold evEs; rfl
theorem es_cons {e : E} {es : Es} {d : D} {ds : List D} (h : evE X e env S = .ok d S1) (hs : evEs X es env S1 = .ok ds S2) : evEs X (.cons e es) env S = .ok (d :: ds) S2 := by
  unfold evEs; rw [h]; show (evEs X es env S1).bind _ = _; rw [hs]; rfl
theorem ev_tup {es : Es} {ds : List D} (h : evEs X es env S = .ok ds S1) (hl : ds.length ≤ LIM) : evE X (.tup es) env S = .ok (.tup ds) S1 := by
  unfold evE; rw [h]; exact if_pos hl
theorem ev_lst {es : Es} {ds : List D} (h : evEs X es env S = .ok ds S1) (hl : ds.length ≤ LIM) : evE X (.lst es) env S = .ok (.lst ds) S1 := by
  unfold evE; rw [h]; exact if_pos hl
theorem ev_bop {o : Bop} {a b : E} {x y z : D} (ha : evE X a env S = .ok x S1) (hb : evE X b env S1 = .ok y S2) (h : bops S2 o x y = some z) : evE X (.bop o a b) env S = .ok z S2 := by
  unfold evE; rw [ha]; show (evE X b env S1).bind _ = _; rw [hb]; show R.of _ _ = _; rw [h]; rfl
theorem ev_neg {a : E} {i : Int} (ha : evE X a env S = .ok (.int i) S1) : evE X (.neg a) env S = .ok (.int (-i)) S1 := by
  unfold evE; rw [ha]; rfl
theorem ev_cmp {o : Cop} {a b : E} {x y : D} {c : Bool} (ha : evE X a env S = .ok x S1) (hb : evE X b env S1 = .ok y S2) (h : cops S2 o x y = some c) : evE X (.cmp o a b) env S = .ok (.bl c) S2 := by
  unfold evE; rw [ha]; show (evE X b env S1).bind _ = _; rw [hb]; show R.of _ _ = _; rw [h]; rfl
theorem ev_chn {o p : Cop} {a b c : E} {x y z : D} {b1 b2 : Bool} (ha : evE X a env S = .ok x S1) (hb : evE X b env S1 = .ok y S2) (h1 : cops S2 o x y = some b1) (hc : b1 = true → evE X c env S2 = .ok z S2) (h2 : b1 = true → cops S2 p y z = some b2) :
    evE X (.chn o p a b c) env S = .ok (.bl (b1 && b2)) S2 := by
  unfold evE; rw [ha]; show (evE X b env S1).bind _ = _; rw [hb]
  cases b1 with
  | false =>
    show (match cops S2 o x y with
      | some true => _
      | some false => _
      | none => _) = _
    rw [h1]; rfl
  | true =>
    show (match cops S2 o x y with
      | some true => _
      | some false => _
      | none => _) = _
    rw [h1]
    show (evE X c env S2).bind _ = _
    rw [hc rfl]; show R.of _ _ = _; rw [h2 rfl]; rfl
theorem ev_ch3 {o p r : Cop} {a b c d : E} {x y z u : D} {b1 b2 b3 : Bool} (ha : evE X a env S = .ok x S1) (hb : evE X b env S1 = .ok y S2) (h1 : cops S2 o x y = some b1) (hc : b1 = true → evE X c env S2 = .ok z S2) (h2 : b1 = true → cops S2 p y z = some b2)
    (hd : b1 = true → b2 = true → evE X d env S2 = .ok u S2) (h3 : b1 = true → b2 = true → cops S2 r z u = some b3) : evE X (.ch3 o p r a b c d) env S = .ok (.bl (b1 && (b2 && b3))) S2 := by
  unfold evE; rw [ha]; show (evE X b env S1).bind _ = _; rw [hb]
  show (match cops S2 o x y with
    | some true => _
    | some false => _
    | none => _) = _
  rw [h1]
  cases b1 with
  | false => rfl
  | true =>
    show (evE X c env S2).bind _ = _
    rw [hc rfl]
    show (match cops S2 p y z with
      | some true => _
      | some false => _
      | none => _) = _
    rw [h2 rfl]
    cases b2 with
    | false => rfl
    | true => show (evE X d env S2).bind _ = _; rw [hd rfl rfl]; show R.of _ _ = _; rw [h3 rfl rfl]; rfl
theorem ev_and {a b : E} {b1 b2 : Bool} (ha : evE X a env S = .ok (.bl b1) S1) (hb : b1 = true → evE X b env S1 = .ok (.bl b2) S1) : evE X (.and a b) env S = .ok (.bl (b1 && b2)) S1 := by
  unfold evE; rw [ha]
  cases b1 with
  | false => rfl
  | true => show evE X b env S1 = _; rw [hb rfl]; rfl
theorem ev_or {a b : E} {b1 b2 : Bool} (ha : evE X a env S = .ok (.bl b1) S1) (hb : b1 = false → evE X b env S1 = .ok (.bl b2) S1) : evE X (.or a b) env S = .ok (.bl (b1 || b2)) S1 := by
  unfold evE; rw [ha]
  cases b1 with
  | true => rfl
  | false => show evE X b env S1 = _; rw [hb rfl]; rfl
theorem ev_not {a : E} {x : D} {b : Bool} (ha : evE X a env S = .ok x S1) (ht : truth S1 x = some b) : evE X (.not a) env S = .ok (.bl (!b)) S1 := by
  unfold evE; rw [ha]
  show (match truth S1 x with
    | some b => R.ok (D.bl (!b)) S1
    | none => .bad) = _
  rw [ht]
theorem ev_ite {α : Type} {e : α → D} {x y : α} {c a b : E} {z : D} {t : Bool} (hc : evE X c env S = .ok z S1) (ht : truth S1 z = some t) (h1 : t = true → evE X a env S1 = .ok (e x) S1) (h2 : t = false → evE X b env S1 = .ok (e y) S1) :
    evE X (.ite c a b) env S = .ok (e (if t = true then x else y)) S1 := by
  unfold evE; rw [hc]
  show (match truth S1 z with
    | some true => evE X a env S1
    | some false => evE X b env S1
    | none => .bad) = _
  rw [ht]
  cases t with
  | true => exact h1 rfl
  | false => exact h2 rfl
theorem ev_ix {a b : E} {x y z : D} (ha : evE X a env S = .ok x S1) (hb : evE X b env S1 = .ok y S2) (h : ixD S2 x y = some z) : evE X (.ix a b) env S = .ok z S2 := by
  unfold evE; rw [ha]; show (evE X b env S1).bind _ = _; rw [hb]; show R.of _ _ = _; rw [h]; rfl
theorem pt_nil : evPt X .nil env S = .ok none S := by unfold evPt; rfl
theorem pp_one {e : E} {i : Int} (h : evE X e env S = .ok (.int i) S1) : evPt X (.cons e .nil) env S = .ok (some i) S1 := by
  unfold evPt; rw [h]; rfl
theorem ev_sl {a : E} {lo hi : Es} {x z : D} {l h : Option Int} (ha : evE X a env S = .ok x S1) (hl : evPt X lo env S1 = .ok l S2) (hh : evPt X hi env S2 = .ok h S3) (hz : slD S3 x l h = some z) : evE X (.sl a lo hi) env S = .ok z S3 := by
  unfold evE; rw [ha]; show (evPt X lo env S1).bind _ = _; rw [hl]; show (evPt X hi env S2).bind _ = _; rw [hh]; show R.of _ _ = _; rw [hz]; rfl
theorem ev_revT {α : Type} {e : α → D} {xs : List α} {a : E} (ha : evE X a env S = .ok (eT e xs) S1) : evE X (.rev a) env S = .ok (eT e xs.reverse) S1 := by
  unfold evE; rw [ha]
  show R.ok (D.tup (xs.map e).reverse) S1 = _
  rw [← List.map_reverse]; rfl
theorem ev_revL {α : Type} {e : α → D} {xs : List α} {a : E} (ha : evE X a env S = .ok (eL e xs) S1) : evE X (.rev a) env S = .ok (eL e xs.reverse) S1 := by
  unfold evE; rw [ha]
  show R.ok (D.lst (xs.map e).reverse) S1 = _
  rw [← List.map_reverse]; rfl
theorem ev_call {f : Nat} {as : Es} {ds : List D} {d : D} (hs : evEs X as env S = .ok ds S1) (hf : X.F f ds S1 = .ok d S2) : evE X (.call f as) env S = .ok d S2 := by
  unfold evE; rw [hs]; exact hf
theorem ev_ckw {f : Nat} {as : Es} {perm : List Nat} {ds es : List D} {d : D} (hs : evEs X as env S = .ok ds S1) (hp : (perm.mapM fun i => ds[i]?) = some es) (hf : X.F f es S1 = .ok d S2) : evE X (.ckw f as perm) env S = .ok d S2 := by
  unfold evE; rw [hs]
  show (match perm.mapM fun i => ds[i]? with
    | some ds => X.F f ds S1
    | none => .bad) = _
  rw [hp]; exact hf
theorem ev_blt {o : Blt} {as : Es} {ds : List D} {z : D} (hs : evEs X as env S = .ok ds S1) (h : bltD S1 o ds = some z) : evE X (.blt o as) env S = .ok z S1 := by
  unfold evE; rw [hs]; show R.of _ _ = _; rw [h]; rfl
theorem ev_rngT {as : Es} {ds : List D} {xs : List D} (hs : evEs X as env S = .ok ds S1) (h : rngD ds = some xs) : evE X (.rng false as) env S = .ok (.tup xs) S1 := by
  unfold evE; rw [hs]
  show (match rngD ds with
    | some xs => _
    | none => _) = _
  rw [h]
theorem ev_rngL {as : Es} {ds : List D} {xs : List D} (hs : evEs X as env S = .ok ds S1) (h : rngD ds = some xs) : evE X (.rng true as) env S = .ok (.lst xs) S1 := by
  unfold evE; rw [hs]
  show (match rngD ds with
    | some xs => _
    | none => _) = _
  rw [h]
theorem ev_mth {o : Mth} {a : E} {as : Es} {x z : D} {ys ds : List D} (ha : evE X a env S = .ok x S1) (hv : view S1 x = .lst ys) (hs : evEs X as env S1 = .ok ds S2) (h : mthD S2 o x ds = some z) : evE X (.mth o a as) env S = .ok z S2 := by
  unfold evE; rw [ha]
  show (match view S1 x with
    | .lst _ => _
    | _ => _) = _
  rw [hv]
  show (evEs X as env S1).bind _ = _
  rw [hs]; show R.of _ _ = _; rw [h]; rfl
theorem ev_isi {a : E} {t : Ty} {x : D} {b : Bool} (ha : evE X a env S = .ok x S1) (h : isi S1 X.sub x t = some b) : evE X (.isi a t) env S = .ok (.bl b) S1 := by
  unfold evE; rw [ha]; show R.of _ _ = _; rw [h]; rfl
theorem ev_app {a e : E} {k : Nat} {d : D} {xs ys : List D} (ha : evE X a env S = .ok (.ref k) S1) (h1 : S1[k]? = some (.lst ys)) (he : evE X e env S1 = .ok d S2) (h2 : S2[k]? = some (.lst xs)) (hl : xs.length < LIM) :
    evE X (.app a e) env S = .ok .non (S2.set k (.lst (xs ++ [d]))) := by
  unfold evE; rw [ha]
  have hv : view S1 (.ref k) = .lst ys := by unfold view; simp only [h1]
  show (match view S1 (.ref k) with
    | .lst _ => _
    | _ => _) = _
  rw [hv]
  show (evE X e env S1).bind _ = _
  rw [he]
  show (match S2[k]? with
    | some (.lst xs) => _
    | _ => _) = _
  rw [h2]
  exact if_pos hl
theorem ev_ext {a e : E} {k : Nat} {d : D} {xs ys zs : List D} (ha : evE X a env S = .ok (.ref k) S1) (h1 : S1[k]? = some (.lst ys)) (he : evE X e env S1 = .ok d S2) (hd : view S2 d = .lst zs) (h2 : S2[k]? = some (.lst xs)) (hl : xs.length + zs.length ≤ LIM) :
    evE X (.ext a e) env S = .ok .non (S2.set k (.lst (xs ++ zs))) := by
  unfold evE; rw [ha]
  have hv : view S1 (.ref k) = .lst ys := by unfold view; simp only [h1]
  show (match view S1 (.ref k) with
    | .lst _ => _
    | _ => _) = _
  rw [hv]
  show (evE X e env S1).bind _ = _
  rw [he]
  show (match S2[k]?, view S2 d with
    | some (.lst xs), .lst ys => _
    | _, _ => _) = _
  rw [h2, hd]
  exact if_pos hl
theorem ev_mutL {e : E} {xs : List D} (h : evE X e env S = .ok (.lst xs) S1) : evE X (.mut e) env S = .ok (.ref S1.length) (S1 ++ [.lst xs]) := by
  unfold evE; rw [h]; rfl
theorem ev_frzL {a : E} {k : Nat} {xs : List D} (ha : evE X a env S = .ok (.ref k) S1) (h : S1[k]? = some (.lst xs)) : evE X (.frz a) env S = .ok (.lst xs) (S1.set k .dead) := by
  unfold evE; rw [ha]
  show (match S1[k]? with
    | some (.lst xs) => _
    | some (.dct xs) => _
    | _ => _) = _
  rw [h]

/-! ### what is gone through -/
theorem it_T {α : Type} {e : α → D} {xs : List α} {a : E} (h : evE X a env S = .ok (eT e xs) S1) : evIt X (.of a) env S = .ok (xs.map e) S1 := by
  unfold evIt; rw [h]; rfl
theorem it_L {α : Type} {e : α → D} {xs : List α} {a : E} (h : evE X a env S = .ok (eL e xs) S1) : evIt X (.of a) env S = .ok (xs.map e) S1 := by
  unfold evIt; rw [h]; rfl
theorem it_scr {ns : List Int} {a : E} (h : evE X a env S = .ok (.scr ns) S1) : evIt X (.of a) env S = .ok (ns.map .int) S1 := by
  unfold evIt; rw [h]; rfl
def rgI (a b : Int) : List Int := (List.range (b - a).toNat).map fun (i : Nat) => a + (i : Int)
theorem rangeI_eq (a b : Int) : rangeI a b = (rgI a b).map .int := by
  unfold rangeI rgI; rw [List.map_map]; rfl
theorem rng1 {j : Int} (h : -1000000 ≤ j ∧ j ≤ 1000000) : rngD [.int j] = some ((rgI 0 j).map .int) := by
  rw [← rangeI_eq]; show (if (decide (-1000000 ≤ j) && decide (j ≤ 1000000)) = true then _ else _) = _
  rw [decide_eq_true h.1, decide_eq_true h.2]; rfl
theorem rng2 {i j : Int} (h1 : -1000000 ≤ i ∧ i ≤ 1000000) (h2 : -1000000 ≤ j ∧ j ≤ 1000000) : rngD [.int i, .int j] = some ((rgI i j).map .int) := by
  rw [← rangeI_eq]; unfold rngD
  simp [h1.1, h1.2, h2.1, h2.2]
def rgC (a : Int) : Nat → List Int
  | 0 => []
  | n + 1 => a :: rgC (a + -1) n
theorem rangeC_eq : ∀ (n : Nat) (a : Int), rangeC a (-1) n = (rgC a n).map .int
  | 0, _ => rfl
  | n + 1, a => by unfold rangeC rgC; rw [rangeC_eq n, List.map_cons]
theorem rng3 {i j : Int} (h1 : -1000000 ≤ i ∧ i ≤ 1000000) (h2 : -1000000 ≤ j ∧ j ≤ 1000000) : rngD [.int i, .int j, .int (-1)] = some ((rgC i (i - j).toNat).map .int) := by
  rw [← rangeC_eq]; unfold rngD
  simp [h1.1, h1.2, h2.1, h2.2]
theorem it_rng {es : Es} {ds : List D} {xs : List D} (hs : evEs X es env S = .ok ds S1) (h : rngD ds = some xs) : evIt X (.rng es) env S = .ok xs S1 := by
  unfold evIt; rw [hs]; show R.of _ _ = _; rw [h]; rfl
def enV {α : Type} : Nat → List α → List (Int × α)
  | _, [] => []
  | n, x :: r => ((n : Int), x) :: enV (n + 1) r
theorem enuD_eq {α : Type} (e : α → D) : ∀ (xs : List α) (n : Nat), enuD n (xs.map e) = (enV n xs).map (e2 .int e)
  | [], _ => rfl
  | x :: xs, n => by rw [List.map_cons]; unfold enuD enV; rw [enuD_eq e xs, List.map_cons]; rfl
theorem it_enuT {α : Type} {e : α → D} {xs : List α} {a : E} (h : evE X a env S = .ok (eT e xs) S1) : evIt X (.enu a) env S = .ok ((enV 0 xs).map (e2 .int e)) S1 := by
  rw [← enuD_eq]; unfold evIt; rw [h]; rfl
theorem it_enuL {α : Type} {e : α → D} {xs : List α} {a : E} (h : evE X a env S = .ok (eL e xs) S1) : evIt X (.enu a) env S = .ok ((enV 0 xs).map (e2 .int e)) S1 := by
  rw [← enuD_eq]; unfold evIt; rw [h]; rfl
theorem zipD_eq {α β : Type} (e : α → D) (f : β → D) : ∀ (xs : List α) (ys : List β), zipD (xs.map e) (ys.map f) = (xs.zip ys).map (e2 e f)
  | [], _ => by simp [zipD]
  | _ :: _, [] => by simp [zipD]
  | x :: xs, y :: ys => by simp [zipD, zipD_eq e f xs ys, e2]
theorem it_zipT {α β : Type} {e : α → D} {f : β → D} {xs : List α} {ys : List β} {a b : E} (h : evE X a env S = .ok (eT e xs) S1) (h2 : evE X b env S1 = .ok (eT f ys) S2) : evIt X (.zip a b) env S = .ok ((xs.zip ys).map (e2 e f)) S2 := by
  rw [← zipD_eq]; unfold evIt; rw [h]; show (evE X b env S1).bind _ = _; rw [h2]; rfl
theorem it_zipL {α β : Type} {e : α → D} {f : β → D} {xs : List α} {ys : List β} {a b : E} (h : evE X a env S = .ok (eL e xs) S1) (h2 : evE X b env S1 = .ok (eL f ys) S2) : evIt X (.zip a b) env S = .ok ((xs.zip ys).map (e2 e f)) S2 := by
  rw [← zipD_eq]; unfold evIt; rw [h]; show (evE X b env S1).bind _ = _; rw [h2]; rfl

/-! ### comprehensions -/
def kOf (X : Fx) (elt : E) : Nv → Store → R (List D) := fun e S => (evE X elt e S).bind fun x S => .ok [x] S
def stepOf (X : Fx) (t : Tg) (c : Es) (g : Gs) (k : Nv → Store → R (List D)) (w : Nv) (d : D) (S : Store) : R (List D) :=
  (bindT X t d w S).bind fun env1 S => (evTs X c env1 S).bind fun b S => match b with
    | true => evGs X g k env1 S
    | false => .ok [] S
theorem st_all {t : Tg} {g : Gs} {k : Nv → Store → R (List D)} {w env1 : Nv} {d : D} {r : R (List D)} (hb : bindT X t d w S = .ok env1 S) (hg : evGs X g k env1 S = r) : stepOf X t .nil g k w d S = r := by
  unfold stepOf; rw [hb]; unfold evTs; exact hg
theorem st_if {t : Tg} {q : E} {g : Gs} {k : Nv → Store → R (List D)} {w env1 : Nv} {d z : D} {b : Bool} {ys : List D} (hb : bindT X t d w S = .ok env1 S) (hq : evE X q env1 S = .ok z S1) (ht : truth S1 z = some b) (hg : b = true → evGs X g k env1 S1 = .ok ys S1) :
    stepOf X t (.cons q .nil) g k w d S = .ok (if b = true then ys else []) S1 := by
  unfold stepOf; rw [hb]; unfold evTs
  show (R.bind (R.bind (evE X q env1 S) _) _) = _
  rw [hq]
  show R.bind (R.of (truth S1 z) S1) _ = _
  rw [ht]
  cases b with
  | true => exact hg rfl
  | false => rfl
theorem gs_nil {elt : E} {v : D} (he : evE X elt env S = .ok v S1) : evGs X .nil (kOf X elt) env S = .ok [v] S1 := by
  unfold evGs kOf; rw [he]; rfl
theorem compL_map {α β : Type} {e : α → D} {e' : β → D} {f : D → Store → R (List D)} {G : α → List β} : ∀ (xs : List α), (∀ x ∈ xs, f (e x) S = .ok ((G x).map e') S) → compL f (xs.map e) S = .ok ((xs.flatMap G).map e') S
  | [], _ => rfl
  | x :: xs, h => by
    rw [List.map_cons]; unfold compL
    rw [h x List.mem_cons_self]
    simp only [compL_map xs fun y hy => h y (List.mem_cons_of_mem _ hy)]
    rw [List.flatMap_cons, List.map_append]
theorem gs_cons {α β : Type} {e : α → D} {e' : β → D} {xs : List α} {G : α → List β} {t : Tg} {it : It} {c : Es} {g : Gs} {k : Nv → Store → R (List D)} (hi : evIt X it env S = .ok (xs.map e) S)
    (h : ∀ x ∈ xs, stepOf X t c g k (wipeE env (slT t ++ slG g)) (e x) S = .ok ((G x).map e') S) : evGs X (.cons t it c g) k env S = .ok ((xs.flatMap G).map e') S := by
  unfold evGs; rw [hi]
  show compL (fun d S => stepOf X t c g k (wipeE env (slT t ++ slG g)) d S) _ S = _
  exact compL_map xs h
theorem lc_flat {α β : Type} {e : α → D} {e' : β → D} {xs : List α} {G : α → List β} {own : List Nat} {elt : E} {t : Tg} {it : It} {c : Es} {g : Gs} (hi : evIt X it env S = .ok (xs.map e) S1)
    (h : ∀ x ∈ xs, stepOf X t c g (kOf X elt) (wipeE env own) (e x) S1 = .ok ((G x).map e') S1) (hl : (xs.flatMap G).length ≤ LIM) : evE X (.lc own elt t it c g) env S = .ok (eL e' (xs.flatMap G)) S1 := by
  unfold evE; rw [hi]
  show (match compL (fun d S => stepOf X t c g (kOf X elt) (wipeE env own) d S) _ S1 with
    | .ok ds S => if ds.length ≤ LIM then R.ok (D.lst ds) S else .bad
    | _ => .bad) = _
  rw [compL_map xs h]
  exact if_pos (by rw [List.length_map]; exact hl)
theorem lc_map {α β : Type} {e : α → D} {e' : β → D} {xs : List α} {G : α → β} {own : List Nat} {elt : E} {t : Tg} {it : It} {w : α → Nv} (hi : evIt X it env S = .ok (xs.map e) S1)
    (hb : ∀ x ∈ xs, bindT X t (e x) (wipeE env own) S1 = .ok (w x) S1) (he : ∀ x ∈ xs, evE X elt (w x) S1 = .ok (e' (G x)) S1) (hl : xs.length ≤ LIM) : evE X (.lc own elt t it .nil .nil) env S = .ok (eL e' (xs.map G)) S1 := by
  have := lc_flat (X := X) (own := own) (elt := elt) (t := t) (c := .nil) (g := .nil) (env := env) (e' := e') (G := fun x => [G x]) hi (fun x hx => by
    refine st_all (hb x hx) ?_
    exact gs_nil (he x hx)) (by rw [flat_map, List.length_map]; exact hl)
  rw [flat_map] at this
  exact this
theorem lc_fil {α β : Type} {e : α → D} {e' : β → D} {xs : List α} {p : α → Bool} {G : α → β} {z : α → D} {own : List Nat} {elt q : E} {t : Tg} {it : It} {w : α → Nv} (hi : evIt X it env S = .ok (xs.map e) S1)
    (hb : ∀ x ∈ xs, bindT X t (e x) (wipeE env own) S1 = .ok (w x) S1) (hq : ∀ x ∈ xs, evE X q (w x) S1 = .ok (z x) S1) (ht : ∀ x ∈ xs, truth S1 (z x) = some (p x)) (he : ∀ x ∈ xs, p x = true → evE X elt (w x) S1 = .ok (e' (G x)) S1) (hl : xs.length ≤ LIM) :
    evE X (.lc own elt t it (.cons q .nil) .nil) env S = .ok (eL e' ((xs.filter p).map G)) S1 := by
  have := lc_flat (X := X) (own := own) (elt := elt) (t := t) (c := .cons q .nil) (g := .nil) (env := env) (e' := e') (G := fun x => if p x = true then [G x] else []) hi (fun x hx => by
    have := st_if (g := .nil) (k := kOf X elt) (ys := [e' (G x)]) (hb x hx) (hq x hx) (ht x hx) fun hp => gs_nil (he x hx hp)
    rw [this]
    cases p x <;> rfl) (by rw [flat_filter, List.length_map]; exact Nat.le_trans (List.length_filter_le _ _) hl)
  rw [flat_filter] at this
  exact this
theorem lc_fid {α : Type} {e : α → D} {xs : List α} {p : α → Bool} {z : α → D} {own : List Nat} {elt q : E} {t : Tg} {it : It} {w : α → Nv} (hi : evIt X it env S = .ok (xs.map e) S1)
    (hb : ∀ x ∈ xs, bindT X t (e x) (wipeE env own) S1 = .ok (w x) S1) (hq : ∀ x ∈ xs, evE X q (w x) S1 = .ok (z x) S1) (ht : ∀ x ∈ xs, truth S1 (z x) = some (p x)) (he : ∀ x ∈ xs, evE X elt (w x) S1 = .ok (e x) S1) (hl : xs.length ≤ LIM) :
    evE X (.lc own elt t it (.cons q .nil) .nil) env S = .ok (eL e (xs.filter p)) S1 := by
  have := lc_fil (e' := e) (G := fun x => x) hi hb hq ht (fun x hx _ => he x hx) hl
  rwa [List.map_id'] at this
/-- with a store that goes on -/
def lcV {α β σ : Type} (G : α → σ → List β × σ) : List α → σ → List β × σ
  | [], q => ([], q)
  | x :: xs, q => ((G x q).1 ++ (lcV G xs (G x q).2).1, (lcV G xs (G x q).2).2)
def lcOk {α β σ : Type} (G : α → σ → List β × σ) (ok : α → σ → Prop) : List α → σ → Prop
  | [], _ => True
  | x :: xs, q => ok x q ∧ lcOk G ok xs (G x q).2
theorem compL_st {α β σ : Type} {e : α → D} {e' : β → D} {St : σ → Store} {ok : α → σ → Prop} {f : D → Store → R (List D)} {G : α → σ → List β × σ} : ∀ (xs : List α) (q : σ), (∀ x q, ok x q → f (e x) (St q) = .ok ((G x q).1.map e') (St (G x q).2)) → lcOk G ok xs q →
    compL f (xs.map e) (St q) = .ok ((lcV G xs q).1.map e') (St (lcV G xs q).2)
  | [], _, _, _ => rfl
  | x :: xs, q, h, hk => by
    rw [List.map_cons]; unfold compL
    rw [h x q hk.1]
    simp only [compL_st xs _ h hk.2]
    rw [show lcV G (x :: xs) q = ((G x q).1 ++ (lcV G xs (G x q).2).1, (lcV G xs (G x q).2).2) from rfl, List.map_append]
theorem lc_st {α β σ : Type} {e : α → D} {e' : β → D} {St : σ → Store} {ok : α → σ → Prop} {xs : List α} {q : σ} {G : α → σ → List β × σ} {own : List Nat} {elt : E} {t : Tg} {it : It} {c : Es} {g : Gs} (hi : evIt X it env S = .ok (xs.map e) (St q))
    (h : ∀ x q, ok x q → stepOf X t c g (kOf X elt) (wipeE env own) (e x) (St q) = .ok ((G x q).1.map e') (St (G x q).2)) (hk : lcOk G ok xs q) (hl : (lcV G xs q).1.length ≤ LIM) : evE X (.lc own elt t it c g) env S = .ok (eL e' (lcV G xs q).1) (St (lcV G xs q).2) := by
  unfold evE; rw [hi]
  show (match compL (fun d S => stepOf X t c g (kOf X elt) (wipeE env own) d S) _ (St q) with
    | .ok ds S => if ds.length ≤ LIM then R.ok (D.lst ds) S else .bad
    | _ => .bad) = _
  rw [compL_st xs q h hk]
  exact if_pos (by rw [List.length_map]; exact hl)

/-! ### statements -/
theorem cs_nil : evCs X .nil env S = .ok (.nx env) S := by unfold evCs; rfl
theorem cs_step {c : C} {cs : Cs} {e : Nv} (h : evC X c env S = .ok (.nx e) S1) : evCs X (.cons c cs) env S = evCs X cs e S1 := by
  rw [evCs, h]
theorem cs_asg {i : Nat} {e : E} {cs : Cs} {d : D} {env1 : Nv} (he : evE X e env S = .ok d S1) (hn : env.set i (some d) = env1) : evCs X (.cons (.asg (.nm i) e) cs) env S = evCs X cs env1 S1 := by
  refine cs_step ?_
  unfold evC; rw [he]; subst hn; unfold RS.of bindT; rfl
theorem cs_asgT {t : Tg} {e : E} {cs : Cs} {d : D} {env1 : Nv} (he : evE X e env S = .ok d S1) (hb : bindT X t d env S1 = .ok env1 S2) : evCs X (.cons (.asg t e) cs) env S = evCs X cs env1 S2 := by
  refine cs_step ?_
  unfold evC; rw [he]; unfold RS.of
  show (match bindT X t d env S1 with
    | .ok env1 S1 => _
    | .exc c S1 => _
    | .bad => _) = _
  rw [hb]
theorem cs_par {ts : List Nat} {es : Es} {cs : Cs} {ds : List D} {env1 : Nv} (hs : evEs X es env S = .ok ds S1) (hn : setAll ts ds env = some env1) : evCs X (.cons (.par ts es) cs) env S = evCs X cs env1 S1 := by
  refine cs_step ?_
  unfold evC; rw [hs]
  show (match setAll ts ds env with
    | some env1 => _
    | none => _) = _
  rw [hn]
theorem cs_expr {e : E} {cs : Cs} {d : D} (he : evE X e env S = .ok d S1) : evCs X (.cons (.expr e) cs) env S = evCs X cs env S1 := by
  refine cs_step ?_
  unfold evC; rw [he]; rfl
theorem cs_ret {e : E} {cs : Cs} {d : D} (he : evE X e env S = .ok d S1) : evCs X (.cons (.ret e) cs) env S = .ok (.rt d) S1 := by
  unfold evCs evC; rw [he]; rfl
def capp : Cs → Cs → Cs
  | .nil, b => b
  | .cons c a, b => .cons c (capp a b)
theorem cs_capp : ∀ (a b : Cs) (env : Nv) (S : Store), evCs X (capp a b) env S = match evCs X a env S with
    | .ok (.nx e) S1 => evCs X b e S1
    | r => r
  | .nil, b, env, S => by unfold capp; rw [cs_nil]
  | .cons c a, b, env, S => by
    unfold capp
    rw [evCs, evCs]
    cases h : evC X c env S with
    | ok f S1 =>
      cases f with
      | nx e => exact cs_capp a b e S1
      | _ => rfl
    | _ => rfl
theorem cs_ite {c : E} {a b cs : Cs} {z : D} {t : Bool} (hc : evE X c env S = .ok z S1) (ht : truth S1 z = some t) : evCs X (.cons (.ite c a b) cs) env S = evCs X (capp (if t = true then a else b) cs) env S1 := by
  rw [cs_capp]
  have e : evC X (.ite c a b) env S = evCs X (if t = true then a else b) env S1 := by
    unfold evC; rw [hc]; unfold RS.of
    show (match truth S1 z with
      | some true => _
      | some false => _
      | none => _) = _
    rw [ht]
    cases t <;> rfl
  rw [evCs, e]
  all_goals
    generalize evCs X (if t = true then a else b) env S1 = r
    cases r with
    | ok f S' => cases f <;> rfl
    | _ => rfl
theorem cs_if {τ : Type} {Φ : RS → τ → Prop} {x y : τ} {c : E} {a b cs : Cs} {z : D} {t : Bool} (hc : evE X c env S = .ok z S1) (ht : truth S1 z = some t) (h1 : t = true → Φ (evCs X (capp a cs) env S1) x) (h2 : t = false → Φ (evCs X (capp b cs) env S1) y) :
    Φ (evCs X (.cons (.ite c a b) cs) env S) (if t = true then x else y) := by
  rw [cs_ite hc ht]
  cases t with
  | true => exact h1 rfl
  | false => exact h2 rfl
theorem cs_join {σ : Type} {P : σ → Nv → Store → Prop} {x y : σ} {c : E} {a b : Cs} {z : D} {t : Bool} (hc : evE X c env S = .ok z S1) (ht : truth S1 z = some t)
    (h1 : t = true → ∃ e S', evCs X a env S1 = .ok (.nx e) S' ∧ P x e S') (h2 : t = false → ∃ e S', evCs X b env S1 = .ok (.nx e) S' ∧ P y e S') : ∃ e S', evC X (.ite c a b) env S = .ok (.nx e) S' ∧ P (if t = true then x else y) e S' := by
  have e : evC X (.ite c a b) env S = evCs X (if t = true then a else b) env S1 := by
    unfold evC; rw [hc]; unfold RS.of
    show (match truth S1 z with
      | some true => _
      | some false => _
      | none => _) = _
    rw [ht]
    cases t <;> rfl
  rw [e]
  cases t with
  | true => exact h1 rfl
  | false => exact h2 rfl

/-! ### loops -/
inductive Lp (ρ σ : Type) where
  | rt (r : ρ)
  | nx (s : σ)
  | bk (s : σ)
def forV {α ρ σ : Type} (step : σ → α → Lp ρ σ) : List α → σ → Lp ρ σ
  | [], s => .nx s
  | x :: xs, s => match step s x with
    | .nx s' => forV step xs s'
    | .bk s' => .nx s'
    | .rt r => .rt r
def forOk {α ρ σ : Type} (step : σ → α → Lp ρ σ) (ok : σ → α → Prop) : List α → σ → Prop
  | [], _ => True
  | x :: xs, s => ok s x ∧ match step s x with
    | .nx s' => forOk step ok xs s'
    | _ => True
/-- what a block comes to, and a value that tells it -/
def Blk {ρ σ : Type} (P : σ → Nv → Store → Prop) (Q : ρ → D → Store → Prop) (r : RS) (v : Lp ρ σ) : Prop :=
  match v with
  | .nx s => ∃ e S', (r = .ok (.nx e) S' ∨ r = .ok (.ct e) S') ∧ P s e S'
  | .bk s => ∃ e S', r = .ok (.bk e) S' ∧ P s e S'
  | .rt v => ∃ d S', r = .ok (.rt d) S' ∧ Q v d S'
theorem for_rel {α ρ σ : Type} {P : σ → Nv → Store → Prop} {Q : ρ → D → Store → Prop} {e : α → D} {t : Tg} {b : Cs} {step : σ → α → Lp ρ σ} {ok : σ → α → Prop}
    (hb : ∀ s x env S, P s env S → ok s x → ∃ env1 S1, bindT X t (e x) env S = .ok env1 S1 ∧ Blk P Q (evCs X b env1 S1) (step s x)) : ∀ (xs : List α) (s : σ) (env : Nv) (S : Store), P s env S → forOk step ok xs s →
    match forV step xs s with
    | .nx s' => ∃ e' S', forL X t (fun e S => evCs X b e S) (xs.map e) env S = .ok (.nx e') S' ∧ P s' e' S'
    | .bk _ => False
    | .rt v => ∃ d S', forL X t (fun e S => evCs X b e S) (xs.map e) env S = .ok (.rt d) S' ∧ Q v d S'
  | [], s, env, S, hp, _ => ⟨env, S, rfl, hp⟩
  | x :: xs, s, env, S, hp, hk => by
    obtain ⟨env1, S1, h1, h2⟩ := hb s x env S hp hk.1
    have hk2 := hk.2
    rw [List.map_cons]
    unfold forV forL
    rw [h1]
    cases hv : step s x with
    | nx s' =>
      rw [hv] at h2 hk2
      obtain ⟨e', S', h3, h4⟩ := h2
      have ih := for_rel hb xs s' e' S' h4 hk2
      rcases h3 with h3 | h3 <;> (simp only [h3]; exact ih)
    | bk s' =>
      rw [hv] at h2
      obtain ⟨e', S', h3, h4⟩ := h2
      simp only [h3]
      exact ⟨e', S', rfl, h4⟩
    | rt v =>
      rw [hv] at h2
      obtain ⟨d, S', h3, h4⟩ := h2
      simp only [h3]
      exact ⟨d, S', rfl, h4⟩
theorem for_nx {α ρ σ : Type} {P : σ → Nv → Store → Prop} {Q : ρ → D → Store → Prop} {e : α → D} {t : Tg} {b : Cs} {step : σ → α → Lp ρ σ} {ok : σ → α → Prop} {xs : List α} {s s' : σ}
    (h : match forV step xs s with
    | .nx s' => ∃ e' S', forL X t (fun e S => evCs X b e S) (xs.map e) env S = .ok (.nx e') S' ∧ P s' e' S'
    | .bk _ => False
    | .rt v => ∃ d S', forL X t (fun e S => evCs X b e S) (xs.map e) env S = .ok (.rt d) S' ∧ Q v d S') (hv : forV step xs s = .nx s') : ∃ e' S', forL X t (fun e S => evCs X b e S) (xs.map e) env S = .ok (.nx e') S' ∧ P s' e' S' := by
  rw [hv] at h; exact h
theorem for_rt {α ρ σ : Type} {P : σ → Nv → Store → Prop} {Q : ρ → D → Store → Prop} {e : α → D} {t : Tg} {b : Cs} {step : σ → α → Lp ρ σ} {ok : σ → α → Prop} {xs : List α} {s : σ} {v : ρ}
    (h : match forV step xs s with
    | .nx s' => ∃ e' S', forL X t (fun e S => evCs X b e S) (xs.map e) env S = .ok (.nx e') S' ∧ P s' e' S'
    | .bk _ => False
    | .rt v => ∃ d S', forL X t (fun e S => evCs X b e S) (xs.map e) env S = .ok (.rt d) S' ∧ Q v d S') (hv : forV step xs s = .rt v) : ∃ d S', forL X t (fun e S => evCs X b e S) (xs.map e) env S = .ok (.rt d) S' ∧ Q v d S' := by
  rw [hv] at h; exact h
/-- a loop without a way out -/
def fldOk {α σ : Type} (step : σ → α → σ) (ok : σ → α → Prop) : List α → σ → Prop
  | [], _ => True
  | x :: xs, s => ok s x ∧ fldOk step ok xs (step s x)
theorem for_fld {α σ : Type} {P : σ → Nv → Store → Prop} {e : α → D} {t : Tg} {b : Cs} {step : σ → α → σ} {ok : σ → α → Prop}
    (hb : ∀ s x env S, P s env S → ok s x → ∃ env1 S1, bindT X t (e x) env S = .ok env1 S1 ∧ ∃ e S', evCs X b env1 S1 = .ok (.nx e) S' ∧ P (step s x) e S') : ∀ (xs : List α) (s : σ) (env : Nv) (S : Store), P s env S → fldOk step ok xs s →
    ∃ e' S', forL X t (fun e S => evCs X b e S) (xs.map e) env S = .ok (.nx e') S' ∧ P (xs.foldl step s) e' S'
  | [], s, env, S, hp, _ => ⟨env, S, rfl, hp⟩
  | x :: xs, s, env, S, hp, hk => by
    obtain ⟨env1, S1, h1, e', S', h3, h4⟩ := hb s x env S hp hk.1
    rw [List.map_cons]
    unfold forL
    rw [h1]
    simp only [h3]
    exact for_fld hb xs _ e' S' h4 hk.2
theorem cs_for {t : Tg} {it : It} {b cs : Cs} {items : List D} {e' : Nv} (hi : evIt X it env S = .ok items S1) (hf : forL X t (fun e S => evCs X b e S) items env S1 = .ok (.nx e') S2) : evCs X (.cons (.fr t it b) cs) env S = evCs X cs e' S2 := by
  refine cs_step ?_
  unfold evC; rw [hi]; exact hf
theorem cs_for_rt {t : Tg} {it : It} {b cs : Cs} {items : List D} {d : D} (hi : evIt X it env S = .ok items S1) (hf : forL X t (fun e S => evCs X b e S) items env S1 = .ok (.rt d) S2) : evCs X (.cons (.fr t it b) cs) env S = .ok (.rt d) S2 := by
  rw [evCs]
  have : evC X (.fr t it b) env S = .ok (.rt d) S2 := by
    unfold evC; rw [hi]; exact hf
  rw [this]
/-- a while: so many turns at most -/
def whlV {ρ σ : Type} (c : σ → Bool) (step : σ → Lp ρ σ) : Nat → σ → Lp ρ σ
  | 0, s => .bk s
  | n + 1, s => if c s = true then (match step s with
    | .nx s' => whlV c step n s'
    | .bk s' => .nx s'
    | .rt r => .rt r) else .nx s
def whlOk {ρ σ : Type} (c : σ → Bool) (step : σ → Lp ρ σ) (okc okb : σ → Prop) : Nat → σ → Prop
  | 0, _ => False
  | n + 1, s => okc s ∧ (c s = true → okb s ∧ match step s with
    | .nx s' => whlOk c step okc okb n s'
    | _ => True)
theorem whl_rel {ρ σ : Type} {P : σ → Nv → Store → Prop} {Q : ρ → D → Store → Prop} {q : E} {b : Cs} {c : σ → Bool} {step : σ → Lp ρ σ} {okc okb : σ → Prop}
    (hc : ∀ s env S, P s env S → okc s → ∃ z, evE X q env S = .ok z S ∧ truth S z = some (c s))
    (hb : ∀ s env S, P s env S → okb s → c s = true → Blk P Q (evCs X b env S) (step s)) : ∀ (n : Nat) (s : σ) (env : Nv) (S : Store), P s env S → whlOk c step okc okb n s →
    match whlV c step n s with
    | .nx s' => ∃ e' S', whlL X q (fun e S => evCs X b e S) n env S = .ok (.nx e') S' ∧ P s' e' S'
    | .bk _ => False
    | .rt v => ∃ d S', whlL X q (fun e S => evCs X b e S) n env S = .ok (.rt d) S' ∧ Q v d S'
  | 0, s, env, S, hp, hk => hk.elim
  | n + 1, s, env, S, hp, hk => by
    obtain ⟨z, h1, h2⟩ := hc s env S hp hk.1
    unfold whlV whlL
    rw [h1]
    unfold RS.of
    simp only [h2]
    cases hcs : c s with
    | false =>
      rw [if_neg Bool.false_ne_true]
      exact ⟨env, S, rfl, hp⟩
    | true =>
      rw [if_pos rfl]
      have hk2 := hk.2 hcs
      have hB := hb s env S hp hk2.1 hcs
      have hk3 := hk2.2
      cases hv : step s with
      | nx s' =>
        rw [hv] at hB hk3
        obtain ⟨e', S', h3, h4⟩ := hB
        have ih := whl_rel hc hb n s' e' S' h4 hk3
        rcases h3 with h3 | h3 <;> (simp only [h3]; exact ih)
      | bk s' =>
        rw [hv] at hB
        obtain ⟨e', S', h3, h4⟩ := hB
        simp only [h3]
        exact ⟨e', S', rfl, h4⟩
      | rt v =>
        rw [hv] at hB
        obtain ⟨d, S', h3, h4⟩ := hB
        simp only [h3]
        exact ⟨d, S', rfl, h4⟩
theorem cs_whl {q : E} {b cs : Cs} {e' : Nv} (hf : whlL X q (fun e S => evCs X b e S) WHL env S = .ok (.nx e') S2) : evCs X (.cons (.whl q b) cs) env S = evCs X cs e' S2 := by
  refine cs_step ?_
  unfold evC; exact hf
theorem cs_whl_rt {q : E} {b cs : Cs} {d : D} (hf : whlL X q (fun e S => evCs X b e S) WHL env S = .ok (.rt d) S2) : evCs X (.cons (.whl q b) cs) env S = .ok (.rt d) S2 := by
  rw [evCs]
  have : evC X (.whl q b) env S = .ok (.rt d) S2 := by unfold evC; exact hf
  rw [this]
end
end Rs
end

section
set_option Elab.async false
set_option linter.all false
set_option maxRecDepth 100000
set_option maxHeartbeats 1000000
set_option autoImplicit false
/-! RsT2: typed facts of the evaluator's operators, calls. Own work. -/
namespace Rs
open PySem

section
variable {S : Store}
/-! ### numbers and joins -/
theorem o_add {x y : Int} : bops S .add (.int x) (.int y) = some (.int (x + y)) := rfl
theorem o_sub {x y : Int} : bops S .sub (.int x) (.int y) = some (.int (x - y)) := rfl
theorem o_mul {x y : Int} (h : mulOk x y = true) : bops S .mul (.int x) (.int y) = some (.int (x * y)) := by
  show (if mulOk x y = true then some (D.int (x * y)) else none) = _; rw [if_pos h]
theorem o_fdiv {x y : Int} (h : 0 < y ∧ y < 1073741824) : bops S .fdiv (.int x) (.int y) = some (.int (x / y)) := by
  show (if (decide (0 < y) && decide (y < 1073741824)) = true then some (D.int (x / y)) else none) = _
  rw [decide_eq_true h.1, decide_eq_true h.2]; rfl
theorem o_mod {x y : Int} (h : 0 < y) : bops S .mod (.int x) (.int y) = some (.int (x % y)) := by
  show (if 0 < y then some (D.int (x % y)) else none) = _; rw [if_pos h]
theorem o_pow {x y : Int} (h : (0 ≤ y ∧ y ≤ 1000) ∧ -BIG < x ∧ x < BIG) : bops S .pow (.int x) (.int y) = some (.int (x ^ y.toNat)) := by
  show (if (decide (0 ≤ y) && decide (y ≤ 1000) && (decide (-BIG < x) && decide (x < BIG))) = true then some (D.int (x ^ y.toNat)) else none) = _
  rw [decide_eq_true h.1.1, decide_eq_true h.1.2, decide_eq_true h.2.1, decide_eq_true h.2.2]; rfl
theorem o_addS {x y : Str} (h : x.length + y.length ≤ LIM) : bops S .add (.str x) (.str y) = some (.str (x ++ y)) := by
  show (if x.length + y.length ≤ LIM then some (D.str (x ++ y)) else none) = _; rw [if_pos h]
theorem o_addT {α : Type} {e : α → D} {xs ys : List α} (h : xs.length + ys.length ≤ LIM) : bops S .add (eT e xs) (eT e ys) = some (eT e (xs ++ ys)) := by
  show (if (xs.map e).length + (ys.map e).length ≤ LIM then some (D.tup (xs.map e ++ ys.map e)) else none) = _
  rw [if_pos (by rw [List.length_map, List.length_map]; exact h), ← List.map_append]; rfl
theorem o_addL {α : Type} {e : α → D} {xs ys : List α} (h : xs.length + ys.length ≤ LIM) : bops S .add (eL e xs) (eL e ys) = some (eL e (xs ++ ys)) := by
  show (if (xs.map e).length + (ys.map e).length ≤ LIM then some (D.lst (xs.map e ++ ys.map e)) else none) = _
  rw [if_pos (by rw [List.length_map, List.length_map]; exact h), ← List.map_append]; rfl
theorem o_mulL {α : Type} {e : α → D} {xs : List α} {k : Int} (h : (0 ≤ k ∧ k ≤ 1000) ∧ xs.length ≤ 1000) : bops S .mul (eL e xs) (.int k) = some (eL e (List.replicate k.toNat xs).flatten) := by
  show (if (decide (0 ≤ k) && decide (k ≤ 1000) && decide ((xs.map e).length ≤ 1000)) = true then some (D.lst (List.replicate k.toNat (xs.map e)).flatten) else none) = _
  rw [decide_eq_true h.1.1, decide_eq_true h.1.2, decide_eq_true (show (xs.map e).length ≤ 1000 by rw [List.length_map]; exact h.2)]
  show some (D.lst _) = some (D.lst _)
  rw [List.map_flatten, List.map_replicate]

/-! ### comparisons -/
def eqB {α : Type} [DecidableEq α] (x y : α) : Bool := decide (x = y)
def memB {α : Type} [DecidableEq α] (x : α) (xs : List α) : Bool := decide (x ∈ xs)
@[simp] theorem eqB_iff {α : Type} [DecidableEq α] {x y : α} : eqB x y = true ↔ x = y := by unfold eqB; exact decide_eq_true_iff
@[simp] theorem eqB_not {α : Type} [DecidableEq α] {x y : α} : eqB x y = false ↔ x ≠ y := by unfold eqB; exact decide_eq_false_iff_not
@[simp] theorem memB_iff {α : Type} [DecidableEq α] {x : α} {xs : List α} : memB x xs = true ↔ x ∈ xs := by unfold memB; exact decide_eq_true_iff
@[simp] theorem memB_not {α : Type} [DecidableEq α] {x : α} {xs : List α} : memB x xs = false ↔ x ∉ xs := by unfold memB; exact decide_eq_false_iff_not
theorem view_ge {α : Type} [DecidableEq α] {n : Nat} {e : α → D} (g : GE n e) (x : α) : view S (e x) = e x := by
  have h := g.sh x
  generalize e x = d at h ⊢
  cases d with
  | ref k => cases n <;> cases h
  | _ => rfl
theorem eqD_ge {α : Type} [DecidableEq α] {e : α → D} (g : GE 60 e) (x y : α) : eqD S (e x) (e y) = some (decide (x = y)) := by
  have h : (match shd DEP (view S (e x)) && shd DEP (view S (e y)) with
    | true => some (eqv (view S (e x)) (view S (e y)))
    | false => none) = some (decide (x = y)) := by
    rw [view_ge g, view_ge g, show shd DEP (e x) = true from g.sh x, show shd DEP (e y) = true from g.sh y, g.eq]; rfl
  cases hx : e x with
  | str a =>
    cases hy : e y with
    | str b =>
      have := g.eq x y
      rw [hx, hy] at this
      show some (decide (a = b)) = _
      rw [← this]
      unfold eqv
      by_cases hab : a = b <;> simp [hab]
    | _ => rw [hx, hy] at h; exact h
  | _ => rw [hx] at h; exact h
theorem o_eq {α : Type} [DecidableEq α] {e : α → D} (g : GE 60 e) {x y : α} : cops S .eq (e x) (e y) = some (eqB x y) := eqD_ge g x y
theorem o_ne {α : Type} [DecidableEq α] {e : α → D} (g : GE 60 e) {x y : α} : cops S .ne (e x) (e y) = some (!eqB x y) := by
  show (eqD S (e x) (e y)).map (!·) = _; rw [eqD_ge g]; rfl
theorem o_eqS {x y : Str} : cops S .eq (.str x) (.str y) = some (eqB x y) := rfl
theorem o_neS {x y : Str} : cops S .ne (.str x) (.str y) = some (!eqB x y) := rfl
theorem o_lt {x y : Int} : cops S .lt (.int x) (.int y) = some (decide (x < y)) := rfl
theorem o_le {x y : Int} : cops S .le (.int x) (.int y) = some (decide (x ≤ y)) := rfl
theorem o_gt {x y : Int} : cops S .gt (.int x) (.int y) = some (decide (y < x)) := rfl
theorem o_ge {x y : Int} : cops S .ge (.int x) (.int y) = some (decide (y ≤ x)) := rfl
theorem intsD_map' : ∀ ns : List Int, intsD (ns.map .int) = some ns := intsD_map
theorem o_ltT {x y : List Int} : cops S .lt (eT .int x) (eT .int y) = some (HT.lexLt x y) := by
  show (match intsD (x.map .int), intsD (y.map .int) with
    | some ns, some ms => some (HT.lexLt ns ms)
    | _, _ => none) = _
  rw [intsD_map, intsD_map]
theorem anyEq_ge {α : Type} [DecidableEq α] {n : Nat} {e : α → D} (g : GE n e) (x : α) : ∀ xs : List α, anyEq (e x) (xs.map e) = decide (x ∈ xs)
  | [] => by simp [anyEq]
  | y :: xs => by
    have ih := anyEq_ge g x xs
    unfold anyEq at ih ⊢
    rw [List.map_cons, List.any_cons, ih, g.eq]
    by_cases h : y = x
    · simp [h]
    · have h' : ¬ x = y := fun z => h z.symm
      by_cases h2 : x ∈ xs <;> simp [h, h', h2]
theorem inD_T {α : Type} [DecidableEq α] {e : α → D} (g : GE 60 e) (x : α) (xs : List α) : inD S (e x) (eT e xs) = some (decide (x ∈ xs)) := by
  have h : (if (shd DEP (e x) && (xs.map e).all (shd DEP)) = true then some (anyEq (e x) (xs.map e)) else none) = some (decide (x ∈ xs)) := by
    rw [show shd DEP (e x) = true from g.sh x, anyEq_ge g, show (xs.map e).all (shd DEP) = true by
      rw [List.all_map, List.all_eq_true]; exact fun y _ => g.sh y]; rfl
  rw [← h]
  cases hx : e x <;> rfl
theorem inD_L {α : Type} [DecidableEq α] {e : α → D} (g : GE 60 e) (x : α) (xs : List α) : inD S (e x) (eL e xs) = some (decide (x ∈ xs)) := by
  have h : (if (shd DEP (e x) && (xs.map e).all (shd DEP)) = true then some (anyEq (e x) (xs.map e)) else none) = some (decide (x ∈ xs)) := by
    rw [show shd DEP (e x) = true from g.sh x, anyEq_ge g, show (xs.map e).all (shd DEP) = true by
      rw [List.all_map, List.all_eq_true]; exact fun y _ => g.sh y]; rfl
  rw [← h]
  cases hx : e x <;> rfl
theorem o_inT {α : Type} [DecidableEq α] {e : α → D} (g : GE 60 e) {x : α} {xs : List α} : cops S .isin (e x) (eT e xs) = some (memB x xs) := inD_T g x xs
theorem o_inL {α : Type} [DecidableEq α] {e : α → D} (g : GE 60 e) {x : α} {xs : List α} : cops S .isin (e x) (eL e xs) = some (memB x xs) := inD_L g x xs
theorem o_ninT {α : Type} [DecidableEq α] {e : α → D} (g : GE 60 e) {x : α} {xs : List α} : cops S .nin (e x) (eT e xs) = some (!memB x xs) := by
  show (inD S (e x) (eT e xs)).map (!·) = _; rw [inD_T g]; rfl
theorem o_ninL {α : Type} [DecidableEq α] {e : α → D} (g : GE 60 e) {x : α} {xs : List α} : cops S .nin (e x) (eL e xs) = some (!memB x xs) := by
  show (inD S (e x) (eL e xs)).map (!·) = _; rw [inD_L g]; rfl
/-- never None -/
def NZ {α : Type} (e : α → D) : Prop := ∀ x, isD (e x) .non = some false
theorem nz_int : NZ D.int := fun _ => rfl
theorem nz_bl : NZ D.bl := fun _ => rfl
theorem nz_str : NZ D.str := fun _ => rfl
theorem nz_T {α : Type} {e : α → D} : NZ (eT e) := fun _ => rfl
theorem nz_L {α : Type} {e : α → D} : NZ (eL e) := fun _ => rfl
theorem nz_2 {α β : Type} {a : α → D} {b : β → D} : NZ (e2 a b) := fun _ => rfl
theorem o_is {α : Type} {e : α → D} (g : NZ e) {x : Option α} : cops S .is (eO e x) .non = some x.isNone := by
  cases x with
  | none => rfl
  | some x => exact g x
theorem o_isnt {α : Type} {e : α → D} (g : NZ e) {x : Option α} : cops S .isnt (eO e x) .non = some x.isSome := by
  show (isD (eO e x) .non).map (!·) = _
  cases x with
  | none => rfl
  | some x => show (isD (e x) .non).map (!·) = _; rw [g x]; rfl
theorem eO_get {α : Type} [Inhabited α] {e : α → D} {x : Option α} (h : x.isSome = true) : eO e x = e (x.getD default) := by
  cases x with
  | none => cases h
  | some x => rfl

/-! ### places -/
def gI {α : Type} [Inhabited α] (xs : List α) (i : Int) : α := (L2.atI xs i).getD default
def okIx {α : Type} (xs : List α) (i : Int) : Prop := -(xs.length : Int) ≤ i ∧ i < xs.length
theorem ixN_some {n : Nat} {i : Int} (h : -(n : Int) ≤ i ∧ i < n) : ∃ j, L2.ixN n i = some j ∧ j < n := by
  unfold L2.ixN
  by_cases h0 : 0 ≤ i
  · rw [if_pos h0, if_pos h.2]; exact ⟨_, rfl, by omega⟩
  · rw [if_neg h0, if_pos h.1]; exact ⟨_, rfl, by omega⟩
theorem atI_map {α β : Type} (e : α → β) (xs : List α) (i : Int) : L2.atI (xs.map e) i = (L2.atI xs i).map e := by
  unfold L2.atI
  rw [List.length_map]
  cases L2.ixN xs.length i with
  | none => rfl
  | some j => show (xs.map e)[j]? = (xs[j]?).map e; rw [List.getElem?_map]
theorem atI_ok {α : Type} [Inhabited α] {xs : List α} {i : Int} (h : okIx xs i) : L2.atI xs i = some (gI xs i) := by
  obtain ⟨j, h1, h2⟩ := ixN_some h
  have : L2.atI xs i = some xs[j] := by
    unfold L2.atI; rw [h1]; show xs[j]? = _; exact List.getElem?_eq_getElem h2
  unfold gI; rw [this]; rfl
theorem x_T {α : Type} [Inhabited α] {e : α → D} {xs : List α} {i : Int} (h : okIx xs i) : ixD S (eT e xs) (.int i) = some (e (gI xs i)) := by
  show L2.atI (xs.map e) i = _; rw [atI_map, atI_ok h]; rfl
theorem x_L {α : Type} [Inhabited α] {e : α → D} {xs : List α} {i : Int} (h : okIx xs i) : ixD S (eL e xs) (.int i) = some (e (gI xs i)) := by
  show L2.atI (xs.map e) i = _; rw [atI_map, atI_ok h]; rfl
theorem x_scr {xs : List Int} {i : Int} (h : okIx xs i) : ixD S (.scr xs) (.int i) = some (.int (gI xs i)) := by
  show L2.atI (xs.map D.int) i = _; rw [atI_map, atI_ok h]; rfl
theorem cut_map' {α β : Type} (e : α → β) (xs : List α) (lo hi : Option Int) : cut (xs.map e) lo hi = (cut xs lo hi).map e := by
  unfold cut; rw [List.length_map, List.map_take, List.map_drop]
theorem s_T {α : Type} {e : α → D} {xs : List α} {lo hi : Option Int} : slD S (eT e xs) lo hi = some (eT e (cut xs lo hi)) := by
  show some (D.tup (cut (xs.map e) lo hi)) = _; rw [cut_map']; rfl
theorem s_L {α : Type} {e : α → D} {xs : List α} {lo hi : Option Int} : slD S (eL e xs) lo hi = some (eL e (cut xs lo hi)) := by
  show some (D.lst (cut (xs.map e) lo hi)) = _; rw [cut_map']; rfl
theorem s_scr {xs : List Int} {lo hi : Option Int} : slD S (.scr xs) lo hi = some (eL D.int (cut xs lo hi)) := by
  show some (D.lst (cut (xs.map D.int) lo hi)) = _; rw [cut_map']; rfl

/-! ### built-ins -/
theorem b_lenT {α : Type} {e : α → D} {xs : List α} : bltD S .len [eT e xs] = some (.int (xs.length : Int)) := by
  show some (D.int ((xs.map e).length : Int)) = _; rw [List.length_map]
theorem b_lenL {α : Type} {e : α → D} {xs : List α} : bltD S .len [eL e xs] = some (.int (xs.length : Int)) := by
  show some (D.int ((xs.map e).length : Int)) = _; rw [List.length_map]
theorem b_lenScr {xs : List Int} : bltD S .len [.scr xs] = some (.int (xs.length : Int)) := by
  show some (D.int ((xs.map D.int).length : Int)) = _; rw [List.length_map]
def absI (i : Int) : Int := if i < 0 then -i else i
theorem b_abs {i : Int} : bltD S .abs [.int i] = some (.int (absI i)) := rfl
theorem b_max2 {i j : Int} : bltD S .max [.int i, .int j] = some (.int (if j > i then j else i)) := rfl
theorem b_min2 {i j : Int} : bltD S .min [.int i, .int j] = some (.int (if j < i then j else i)) := rfl
def maxV (xs : List Int) : Int := (maxI xs).getD 0
def minV (xs : List Int) : Int := (minI xs).getD 0
theorem maxI_some : ∀ {xs : List Int}, xs ≠ [] → maxI xs = some (maxV xs)
  | [], h => (h rfl).elim
  | [x], _ => rfl
  | x :: y :: r, _ => by
    have h := maxI_some (xs := y :: r) (fun z => nomatch z)
    unfold maxV; unfold maxI; rw [h]; rfl
theorem minI_some : ∀ {xs : List Int}, xs ≠ [] → minI xs = some (minV xs)
  | [], h => (h rfl).elim
  | [x], _ => rfl
  | x :: y :: r, _ => by
    have h := minI_some (xs := y :: r) (fun z => nomatch z)
    unfold minV; unfold minI; rw [h]; rfl
theorem b_maxL {xs : List Int} (h : xs ≠ []) : bltD S .max [eL .int xs] = some (.int (maxV xs)) := by
  show ((intsD (xs.map .int)).bind fun ns => (maxI ns).map D.int) = _
  rw [intsD_map]; show (maxI xs).map D.int = _; rw [maxI_some h]; rfl
theorem b_minL {xs : List Int} (h : xs ≠ []) : bltD S .min [eL .int xs] = some (.int (minV xs)) := by
  show ((intsD (xs.map .int)).bind fun ns => (minI ns).map D.int) = _
  rw [intsD_map]; show (minI xs).map D.int = _; rw [minI_some h]; rfl
theorem b_maxT {xs : List Int} (h : xs ≠ []) : bltD S .max [eT .int xs] = some (.int (maxV xs)) := by
  show ((intsD (xs.map .int)).bind fun ns => (maxI ns).map D.int) = _
  rw [intsD_map]; show (maxI xs).map D.int = _; rw [maxI_some h]; rfl
theorem b_minT {xs : List Int} (h : xs ≠ []) : bltD S .min [eT .int xs] = some (.int (minV xs)) := by
  show ((intsD (xs.map .int)).bind fun ns => (minI ns).map D.int) = _
  rw [intsD_map]; show (minI xs).map D.int = _; rw [minI_some h]; rfl
theorem b_sum {xs : List Int} : bltD S .sum [eL .int xs] = some (.int xs.sum) := by
  show ((intsD (xs.map .int)).map fun ns => D.int ns.sum) = _; rw [intsD_map]; rfl
theorem b_all {α : Type} {p : α → Bool} {xs : List α} : bltD S .all [eL .bl (xs.map p)] = some (.bl (xs.all p)) := by
  show ((bltsD ((xs.map p).map .bl)).map fun bs => D.bl (bs.all id)) = _
  rw [bltsD_map]; show some (D.bl ((xs.map p).all id)) = _; rw [List.all_map]; rfl
theorem b_any {α : Type} {p : α → Bool} {xs : List α} : bltD S .any [eL .bl (xs.map p)] = some (.bl (xs.any p)) := by
  show ((bltsD ((xs.map p).map .bl)).map fun bs => D.bl (bs.any id)) = _
  rw [bltsD_map]; show some (D.bl ((xs.map p).any id)) = _; rw [List.any_map]; rfl
theorem b_sortedL {xs : List Int} (h : xs.length < 64) : bltD S .sorted [eL .int xs] = some (eL .int (sortI xs)) := by
  show (if (xs.map D.int).length < 64 then _ else none) = _
  rw [if_pos (by rw [List.length_map]; exact h), intsD_map]; rfl
def sOk (xs : List (List Int)) : Prop := xs.length < 64 ∧ sameT xs = true
theorem tupsD_map : ∀ ts : List (List Int), tupsD (ts.map (eT .int)) = some ts
  | [] => rfl
  | t :: r => by
    rw [List.map_cons]
    show (match intsD (t.map .int), tupsD (r.map (eT .int)) with
      | some ns, some ts => some (ns :: ts)
      | _, _ => none) = _
    rw [intsD_map, tupsD_map r]
theorem b_sortedT {xs : List (List Int)} (h : sOk xs) : bltD S .sorted [eL (eT .int) xs] = some (eL (eT .int) (sortT xs)) := by
  show (if (xs.map (eT D.int)).length < 64 then _ else none) = _
  rw [if_pos (by rw [List.length_map]; exact h.1)]
  cases xs with
  | nil => rfl
  | cons t r =>
    have e : intsD ((t :: r).map (eT D.int)) = none := rfl
    rw [e, tupsD_map]
    show (if sameT (t :: r) = true then some (D.lst ((sortT (t :: r)).map fun t => D.tup (t.map D.int))) else none) = _
    rw [if_pos h.2]; rfl
theorem b_tupleL {α : Type} {e : α → D} {xs : List α} : bltD S .tuple [eL e xs] = some (eT e xs) := rfl
theorem b_tupleT {α : Type} {e : α → D} {xs : List α} : bltD S .tuple [eT e xs] = some (eT e xs) := rfl
theorem b_listL {α : Type} {e : α → D} {xs : List α} : bltD S .list [eL e xs] = some (eL e xs) := rfl
theorem b_listT {α : Type} {e : α → D} {xs : List α} : bltD S .list [eT e xs] = some (eL e xs) := rfl
theorem b_intB {b : Bool} : bltD S .int [.bl b] = some (.int (if b = true then 1 else 0)) := rfl
theorem b_intI {i : Int} : bltD S .int [.int i] = some (.int i) := rfl
@[irreducible] def txt (d : D) : Str := (toPy d).shown
theorem txt_def (d : D) : txt d = (toPy d).shown := by unfold txt; rfl
def rpOk (d : D) : Prop := shw 30 d = true ∧ (toPy d).shown.length ≤ LIM
theorem b_repr {d : D} (h : rpOk d) : bltD S .repr [d] = some (.str (txt d)) := by
  have hv : view S d = d := by
    cases d with
    | ref k => have := h.1; cases this
    | _ => rfl
  show (if (shw 30 (view S d) && decide ((toPy (view S d)).shown.length ≤ LIM)) = true then some (D.str (toPy (view S d)).shown) else none) = _
  rw [hv, h.1, decide_eq_true h.2, txt_def]; rfl
def cntV {α : Type} [DecidableEq α] (xs : List α) (x : α) : Int := (xs.countP fun y => decide (y = x) : Nat)
def idxV {α : Type} [DecidableEq α] (xs : List α) (x : α) : Int := ((xs.findIdx? fun y => decide (y = x)).getD 0 : Nat)
theorem m_cnt {α : Type} [DecidableEq α] {e : α → D} (g : GE 60 e) {xs : List α} {x : α} : mthD S .count (eL e xs) [e x] = some (.int (cntV xs x)) := by
  show (if (shd DEP (e x) && (xs.map e).all (shd DEP)) = true then some (D.int (((xs.map e).countP fun y => eqv y (e x) : Nat) : Int)) else none) = _
  rw [show shd DEP (e x) = true from g.sh x, show (xs.map e).all (shd DEP) = true by
      rw [List.all_map, List.all_eq_true]; exact fun y _ => g.sh y, List.countP_map]
  show some (D.int ((xs.countP ((fun y => eqv y (e x)) ∘ e) : Nat) : Int)) = _
  rw [show ((fun y => eqv y (e x)) ∘ e) = fun y => decide (y = x) from funext fun y => g.eq y x]
  rfl

theorem t_bl {b : Bool} : truth S (.bl b) = some b := rfl
theorem t_T {α : Type} {e : α → D} {xs : List α} : truth S (eT e xs) = some (!xs.isEmpty) := by
  show some (!(xs.map e).isEmpty) = _; cases xs <;> rfl
theorem t_L {α : Type} {e : α → D} {xs : List α} : truth S (eL e xs) = some (!xs.isEmpty) := by
  show some (!(xs.map e).isEmpty) = _; cases xs <;> rfl

/-! ### targets -/
theorem ev_cast {X : Fx} {env : Nv} {S S1 : Store} {e : E} {d d' : D} (h : evE X e env S = .ok d S1) (q : d = d') : evE X e env S = .ok d' S1 := q ▸ h
theorem len2 {α : Type} [Inhabited α] {xs : List α} (h : xs.length = 2) : xs = [gI xs 0, gI xs 1] := by
  match xs, h with
  | [a, b], _ => rfl
theorem len3 {α : Type} [Inhabited α] {xs : List α} (h : xs.length = 3) : xs = [gI xs 0, gI xs 1, gI xs 2] := by
  match xs, h with
  | [a, b, c], _ => rfl
theorem len4 {α : Type} [Inhabited α] {xs : List α} (h : xs.length = 4) : xs = [gI xs 0, gI xs 1, gI xs 2, gI xs 3] := by
  match xs, h with
  | [a, b, c, d], _ => rfl
theorem eT_2 {α : Type} [Inhabited α] {e : α → D} {xs : List α} (h : xs.length = 2) : eT e xs = .tup [e (gI xs 0), e (gI xs 1)] := by
  conv => lhs; rw [len2 h]
  rfl
theorem eT_3 {α : Type} [Inhabited α] {e : α → D} {xs : List α} (h : xs.length = 3) : eT e xs = .tup [e (gI xs 0), e (gI xs 1), e (gI xs 2)] := by
  conv => lhs; rw [len3 h]
  rfl
theorem eT_4 {α : Type} [Inhabited α] {e : α → D} {xs : List α} (h : xs.length = 4) : eT e xs = .tup [e (gI xs 0), e (gI xs 1), e (gI xs 2), e (gI xs 3)] := by
  conv => lhs; rw [len4 h]
  rfl
theorem eL_2 {α : Type} [Inhabited α] {e : α → D} {xs : List α} (h : xs.length = 2) : eL e xs = .lst [e (gI xs 0), e (gI xs 1)] := by
  conv => lhs; rw [len2 h]
  rfl
theorem eL_3 {α : Type} [Inhabited α] {e : α → D} {xs : List α} (h : xs.length = 3) : eL e xs = .lst [e (gI xs 0), e (gI xs 1), e (gI xs 2)] := by
  conv => lhs; rw [len3 h]
  rfl
end

/-! ### calls -/
theorem oks_pen {S : Store} {p : Nat} {q : Pen} (h : OKS S) : OKS (S.set p (penC q)) := oks_set h fun n => pen_below q.1 q.2.1 q.2.2 n
/-- what a def gives: the value and the store behind it -/
def FunG {ρ : Type} (Q : ρ → D → Store → Prop) (r : RS) (v : ρ) : Prop := ∃ d S', r = .ok (.rt d) S' ∧ Q v d S'
def QP {ρ : Type} (e : ρ → D) (S : Store) (v : ρ) (d : D) (S' : Store) : Prop := fzD S' S.length DEP d = some (e v) ∧ S'.take S.length = S
def QQ {ρ : Type} (e : ρ → D) (S : Store) (p : Nat) (v : ρ × Pen) (d : D) (S' : Store) : Prop := fzD S' S.length DEP d = some (e v.1) ∧ S'.take S.length = S.set p (penC v.2)
theorem fun_ret {X : Fx} {env : Nv} {S S1 : Store} {ρ : Type} {Q : ρ → D → Store → Prop} {v : ρ} {e : E} {cs : Cs} {d : D} (he : evE X e env S = .ok d S1) (hq : Q v d S1) : FunG Q (evCs X (.cons (.ret e) cs) env S) v := ⟨d, S1, cs_ret he, hq⟩
theorem blk_ret {X : Fx} {env : Nv} {S S1 : Store} {ρ σ : Type} {P : σ → Nv → Store → Prop} {Q : ρ → D → Store → Prop} {v : ρ} {e : E} {cs : Cs} {d : D} (he : evE X e env S = .ok d S1) (hq : Q v d S1) : Blk P Q (evCs X (.cons (.ret e) cs) env S) (.rt v) := ⟨d, S1, cs_ret he, hq⟩
theorem blk_nx {X : Fx} {env : Nv} {S : Store} {ρ σ : Type} {P : σ → Nv → Store → Prop} {Q : ρ → D → Store → Prop} {s : σ} (hp : P s env S) : Blk P Q (evCs X .nil env S) (.nx s) := ⟨env, S, .inl cs_nil, hp⟩
theorem blk_cnt {X : Fx} {env : Nv} {S : Store} {ρ σ : Type} {P : σ → Nv → Store → Prop} {Q : ρ → D → Store → Prop} {s : σ} {cs : Cs} (hp : P s env S) : Blk P Q (evCs X (.cons .cnt cs) env S) (.nx s) := ⟨env, S, .inr (by unfold evCs evC; rfl), hp⟩
theorem blk_brk {X : Fx} {env : Nv} {S : Store} {ρ σ : Type} {P : σ → Nv → Store → Prop} {Q : ρ → D → Store → Prop} {s : σ} {cs : Cs} (hp : P s env S) : Blk P Q (evCs X (.cons .brk cs) env S) (.bk s) := ⟨env, S, by unfold evCs evC; rfl, hp⟩
def NxR {σ : Type} (P : σ → Nv → Store → Prop) (r : RS) (s : σ) : Prop := ∃ e S', r = .ok (.nx e) S' ∧ P s e S'
theorem nx_nil {X : Fx} {env : Nv} {S : Store} {σ : Type} {P : σ → Nv → Store → Prop} {s : σ} (hp : P s env S) : NxR P (evCs X .nil env S) s := ⟨env, S, cs_nil, hp⟩
theorem qp_leaf {ρ : Type} {e : ρ → D} {S : Store} {v : ρ} (h : cln DEP (e v) = true) : QP e S v (e v) S := ⟨fz_cln _ _ h, List.take_length⟩
theorem qq_leaf {ρ : Type} {e : ρ → D} {S : Store} {p : Nat} {v : ρ × Pen} (h : cln DEP (e v.1) = true) : QQ e S p v (e v.1) (S.set p (penC v.2)) := ⟨fz_cln _ _ h, by rw [List.take_of_length_le (by rw [List.length_set]; exact Nat.le_refl _)]⟩
theorem run_P {T : List Fn} {sub : Str → Str → Option Bool} {k i : Nat} {fn : Fn} {ds : List D} {S : Store} {ρ : Type} {e : ρ → D} {v : ρ} (hT : T[i]? = some fn) (hl : ds.length = fn.np) (hk : fn.keep = false) (hs : OKS S)
    (h : FunG (QP e S) (evCs ⟨run T sub k, sub⟩ fn.body (ds.map some ++ List.replicate (fn.nn - ds.length) none) S) v) : run T sub (k + 1) i ds S = .ok (e v) S := by
  obtain ⟨d, S', h1, h2, h3⟩ := h
  unfold run
  rw [hT]
  show callFn _ fn ds S = _
  unfold callFn
  rw [if_pos hl, h1]
  simp only [hk, ↓reduceIte, Bool.false_eq_true, h2, h3]
  exact if_pos hs
theorem run_Q {T : List Fn} {sub : Str → Str → Option Bool} {k i : Nat} {fn : Fn} {ds : List D} {S : Store} {p : Nat} {q : Pen} {ρ : Type} {e : ρ → D} {v : ρ × Pen} (hT : T[i]? = some fn) (hl : ds.length = fn.np) (hk : fn.keep = false) (hs : OKS S)
    (h : FunG (QQ e S p) (evCs ⟨run T sub k, sub⟩ fn.body (ds.map some ++ List.replicate (fn.nn - ds.length) none) (S.set p (penC q))) v) : run T sub (k + 1) i ds (S.set p (penC q)) = .ok (e v.1) (S.set p (penC v.2)) := by
  obtain ⟨d, S', h1, h2, h3⟩ := h
  unfold run
  rw [hT]
  show callFn _ fn ds _ = _
  unfold callFn
  rw [if_pos hl, h1]
  have hlen : (S.set p (penC q)).length = S.length := List.length_set ..
  simp only [hk, ↓reduceIte, Bool.false_eq_true, hlen, h2, h3]
  have := oks_pen (p := p) (q := v.2) hs
  unfold OKS at this
  rw [List.length_set] at this
  exact if_pos this
theorem set_get {S : Store} {p : Nat} {c : Cell} (h : S[p]? = some c) : S.set p c = S := by
  have hl := (List.getElem?_eq_some_iff.mp h)
  obtain ⟨hl, e⟩ := hl
  subst e
  exact List.set_getElem_self hl
theorem pen_get {S : Store} {p : Nat} {c : Cell} (h : p < S.length) : (S.set p c)[p]? = some c := List.getElem?_set_self h
theorem oks_nil : OKS [] := rfl
end Rs
end

section
set_option Elab.async false
set_option linter.all false
set_option maxRecDepth 100000
set_option maxHeartbeats 1000000
set_option autoImplicit false
/-! RsT3: more typed rules: pens made, the top def, sets of pairs. Own work. -/
namespace Rs
open PySem

section
variable {X : Fx} {env : Nv} {S S1 : Store}
theorem ev_tupT {α : Type} {e : α → D} {xs : List α} {es : Es} (h : evEs X es env S = .ok (xs.map e) S1) (hl : xs.length ≤ LIM) : evE X (.tup es) env S = .ok (eT e xs) S1 := ev_tup h (by rw [List.length_map]; exact hl)
theorem ev_lstL {α : Type} {e : α → D} {xs : List α} {es : Es} (h : evEs X es env S = .ok (xs.map e) S1) (hl : xs.length ≤ LIM) : evE X (.lst es) env S = .ok (eL e xs) S1 := ev_lst h (by rw [List.length_map]; exact hl)
theorem ev_tup2 {α β : Type} {a : α → D} {b : β → D} {x : α} {y : β} {es : Es} (h : evEs X es env S = .ok [a x, b y] S1) : evE X (.tup es) env S = .ok (e2 a b (x, y)) S1 := ev_tup h (Nat.le_of_ble_eq_true rfl)
theorem ev_tup3 {α β γ : Type} {a : α → D} {b : β → D} {c : γ → D} {x : α} {y : β} {z : γ} {es : Es} (h : evEs X es env S = .ok [a x, b y, c z] S1) : evE X (.tup es) env S = .ok (e3 a b c (x, y, z)) S1 := ev_tup h (Nat.le_of_ble_eq_true rfl)
theorem ev_tup4 {α β γ δ : Type} {a : α → D} {b : β → D} {c : γ → D} {d : δ → D} {x : α} {y : β} {z : γ} {u : δ} {es : Es} (h : evEs X es env S = .ok [a x, b y, c z, d u] S1) : evE X (.tup es) env S = .ok (e4 a b c d (x, y, z, u)) S1 := ev_tup h (Nat.le_of_ble_eq_true rfl)
end
theorem cs_join2 {X : Fx} {env : Nv} {S S1 : Store} {σ : Type} {P : σ → Nv → Store → Prop} {x y v : σ} {c : E} {a b : Cs} {z : D} {t : Bool} (hc : evE X c env S = .ok z S1) (ht : truth S1 z = some t)
    (h1 : t = true → NxR P (evCs X a env S1) x) (h2 : t = false → NxR P (evCs X b env S1) y) (hv : (if t = true then x else y) = v) : ∃ e S', evC X (.ite c a b) env S = .ok (.nx e) S' ∧ P v e S' := hv ▸ cs_join hc ht h1 h2
def Lp.fin {ρ σ τ : Type} (v : Lp ρ σ) (f : σ → τ) (g : ρ → τ) : τ :=
  match v with
  | .nx s => f s
  | .bk s => f s
  | .rt r => g r
theorem run_top {T : List Fn} {sub : Str → Str → Option Bool} {k i : Nat} {fn : Fn} {ds : List D} {v : Bool} (hT : T[i]? = some fn) (hl : ds.length = fn.np) (hk : fn.keep = false)
    (h : FunG (fun (v : Bool) (d : D) (_ : Store) => d = D.bl v) (evCs ⟨run T sub k, sub⟩ fn.body (ds.map some ++ List.replicate (fn.nn - ds.length) none) []) v) : ∃ S_, run T sub (k + 1) i ds [] = .ok (.bl v) S_ := by
  obtain ⟨d, S', h1, rfl⟩ := h
  refine ⟨[], ?_⟩
  unfold run
  rw [hT]
  show callFn _ fn ds [] = _
  unfold callFn
  rw [if_pos hl, h1]
  simp only [hk, ↓reduceIte, Bool.false_eq_true]
  rfl
theorem below_mono {n m : Nat} (h : n ≤ m) : ∀ (k : Nat) (d : D), below n k d = true → below m k d = true
  | 0, d, e => by cases d <;> cases e
  | k + 1, d, e => by
    cases d with
    | tup xs =>
      have e : xs.all (below n k) = true := e
      show xs.all (below m k) = true
      rw [List.all_eq_true] at e ⊢
      exact fun x hx => below_mono h k x (e x hx)
    | lst xs =>
      have e : xs.all (below n k) = true := e
      show xs.all (below m k) = true
      rw [List.all_eq_true] at e ⊢
      exact fun x hx => below_mono h k x (e x hx)
    | ref j =>
      have e : decide (j < n) = true := e
      show decide (j < m) = true
      have := of_decide_eq_true e
      exact decide_eq_true (by omega)
    | dct kvs => cases e
    | _ => rfl
theorem cellBelow_mono {n m : Nat} (h : n ≤ m) (c : Cell) (e : cellBelow n c = true) : cellBelow m c = true := by
  cases c with
  | lst xs =>
    have e : xs.all (below n DEP) = true := e
    show xs.all (below m DEP) = true
    rw [List.all_eq_true] at e ⊢
    exact fun x hx => below_mono h _ x (e x hx)
  | dct kvs => cases e
  | ins c fs =>
    have e : fs.all (fun p => below n DEP p.2) = true := e
    show fs.all (fun p => below m DEP p.2) = true
    rw [List.all_eq_true] at e ⊢
    exact fun x hx => below_mono h _ _ (e x hx)
  | dead => rfl
theorem oks_push' {S : Store} {c : Cell} (h : OKS S) (hc : cellBelow (S.length + 1) c = true) : OKS (S ++ [c]) := by
  unfold OKS at h ⊢
  rw [List.length_append, List.all_append, Bool.and_eq_true]
  refine ⟨?_, by simpa using hc⟩
  rw [List.all_eq_true] at h ⊢
  exact fun x hx => cellBelow_mono (Nat.le_add_right _ _) x (h x hx)
theorem oks_new {S : Store} {q : Pen} (h : OKS S) : OKS (S ++ [penC q]) := oks_push' h (pen_below q.1 q.2.1 q.2.2 _)
theorem new_lt {S : Store} {q : Pen} : S.length < (S ++ [penC q]).length := by simp
theorem new_set {S : Store} {q : Pen} : S ++ [penC q] = List.set (S ++ [penC q]) S.length (penC q) := (set_get (by simp)).symm
theorem st_ifm {β : Type} {e' : β → D} {X : Fx} {S S1 : Store} {t : Tg} {q : E} {g : Gs} {k : Nv → Store → R (List D)} {w env1 : Nv} {d z : D} {b : Bool} {ys : List β} (hb : bindT X t d w S = .ok env1 S) (hq : evE X q env1 S = .ok z S1) (ht : truth S1 z = some b)
    (hg : b = true → evGs X g k env1 S1 = .ok (ys.map e') S1) : stepOf X t (.cons q .nil) g k w d S = .ok ((if b = true then ys else []).map e') S1 := by
  rw [st_if hb hq ht hg]
  cases b <;> rfl
theorem b_allL {S : Store} {bs : List Bool} : bltD S .all [eL .bl bs] = some (.bl (bs.all id)) := by
  show ((bltsD (bs.map .bl)).map fun bs => D.bl (bs.all id)) = _
  rw [bltsD_map]; rfl
theorem b_anyL {S : Store} {bs : List Bool} : bltD S .any [eL .bl bs] = some (.bl (bs.any id)) := by
  show ((bltsD (bs.map .bl)).map fun bs => D.bl (bs.any id)) = _
  rw [bltsD_map]; rfl
/-- a def without a value -/
def NonR (S : Store) (r : RS) (_ : Unit) : Prop := ∃ e, r = .ok (.nx e) S
theorem non_nil {X : Fx} {env : Nv} {S : Store} {v : Unit} : NonR S (evCs X .nil env S) v := ⟨env, cs_nil⟩
theorem run_N {T : List Fn} {sub : Str → Str → Option Bool} {k i : Nat} {fn : Fn} {ds : List D} {S : Store} {v : Unit} (hT : T[i]? = some fn) (hl : ds.length = fn.np) (hk : fn.keep = false) (hs : OKS S)
    (h : NonR S (evCs ⟨run T sub k, sub⟩ fn.body (ds.map some ++ List.replicate (fn.nn - ds.length) none) S) v) : run T sub (k + 1) i ds S = .ok .non S := by
  obtain ⟨e, h1⟩ := h
  exact call_non hT hl hk hs rfl h1
def penV (c : Int) : Pen := (if c - 10 ^ 18 > 0 then c - 10 ^ 18 else 0, c % 2147483629 + 1, 0)
theorem run_pen {T : List Fn} {sub : Str → Str → Option Bool} {k i : Nat} {S : Store} (hT : T[i]? = some ⟨1, 1, true, (.cons (.ret (.mut (.lst (.cons (.blt .max (.cons (.cst (.int 0)) (.cons (.bop .sub (.var 0) (.bop .pow (.cst (.int 10)) (.cst (.int 18)))) .nil))) (.cons (.bop .add (.bop .mod (.var 0) (.cst (.int 2147483629))) (.cst (.int 1))) (.cons (.cst (.int 0)) .nil)))))) .nil)⟩) (c : Int) :
    run T sub (k + 1) i [.int c] S = .ok (.ref S.length) (S ++ [penC (penV c)]) := by
  refine call_keep hT rfl rfl ?_
  show evCs _ _ [some (.int c)] S = _
  simp [evCs, evC, evE, evEs, RS.of, R.bind, R.of, getV, bops, addD, subD, powD, modD, bltD, maxD, LIM, BIG, penC, penV]
def v_law_draw (q : Pen) (m : Int) : Int × Pen :=
  if q.1 > 0 then (q.1 % m, (q.1 / m, q.2.1, q.2.2))
  else
    let b := (q.2.1 * 48271 + 1009 * (q.2.2 + 1) + 7) % 2147483647
    let r := (b * b + 69621 * b + 11) % 2147483629
    ((r * r + 40014 * r) % 2147483587 / 16 % m, (q.1, b, q.2.2 + 1))
def ok_law_draw (_ : Pen) (m : Int) : Prop := 0 < m ∧ m < 1073741824
theorem draw_bd {q : Pen} {m : Int} (h : 0 < m) : 0 ≤ (v_law_draw q m).1 ∧ (v_law_draw q m).1 < m := by
  unfold v_law_draw
  split
  · exact ⟨Int.emod_nonneg _ (by omega), Int.emod_lt_of_pos _ h⟩
  · exact ⟨Int.emod_nonneg _ (by omega), Int.emod_lt_of_pos _ h⟩
theorem run_draw {T : List Fn} {sub : Str → Str → Option Bool} {k i : Nat} {S : Store} {p : Nat} {q : Pen} {m : Int} (hT : T[i]? = some ⟨2, 4, false, b_draw⟩) (hs : OKS S) (hp : p < S.length) (h : ok_law_draw q m) :
    run T sub (k + 1) i [.ref p, .int m] (S.set p (penC q)) = .ok (.int (v_law_draw q m).1) (S.set p (penC (v_law_draw q m).2)) := by
  obtain ⟨a, b, c⟩ := q
  obtain ⟨h0, h1⟩ := h
  have hp' : ∀ c : Cell, (S.set p c)[p]? = some c := fun c => List.getElem?_set_self hp
  have ok' : ∀ q, OKS (S.set p (penC q)) := fun q => oks_set hs fun n => pen_below q.1 q.2.1 q.2.2 n
  have len' : ∀ q, (S.set p (penC q)).length = (S.set p (penC (a, b, c))).length := fun q => by simp
  by_cases ha : a > 0
  · have e : v_law_draw (a, b, c) m = (a % m, (a / m, b, c)) := if_pos ha
    rw [e]
    refine call_ok hT rfl rfl (ok' _) (len' _) rfl ?_
    simp [b_draw, evCs, evC, evE, RS.of, R.bind, R.of, getV, bops, cops, gtO, modD, fdivD, ixD, seqOf, view, hp', truth, bindT, h0, h1, ha, L2.atI, L2.ixN, penC, List.set_set]
  · have h48 : mulOk b 48271 = true := mulOk_r (by decide)
    have h10 : mulOk 1009 (c + 1) = true := mulOk_l (by decide)
    have e1 : 0 ≤ (b * 48271 + 1009 * (c + 1) + 7) % 2147483647 := Int.emod_nonneg _ (by decide)
    have e2 : (b * 48271 + 1009 * (c + 1) + 7) % 2147483647 < 2147483647 := Int.emod_lt_of_pos _ (by decide)
    have e : v_law_draw (a, b, c) m = _ := if_neg ha
    rw [e]
    refine call_ok hT rfl rfl (ok' _) (len' _) rfl ?_
    dsimp only
    have hbb := mulOk_r (i := (b * 48271 + 1009 * (c + 1) + 7) % 2147483647) (j := (b * 48271 + 1009 * (c + 1) + 7) % 2147483647) ⟨by omega, by omega⟩
    have h69 : mulOk 69621 ((b * 48271 + 1009 * (c + 1) + 7) % 2147483647) = true := mulOk_l (by decide)
    generalize hq : (b * 48271 + 1009 * (c + 1) + 7) % 2147483647 = q at e1 e2 hbb h69 ⊢
    have e3 : 0 ≤ (q * q + 69621 * q + 11) % 2147483629 := Int.emod_nonneg _ (by decide)
    have e4 : (q * q + 69621 * q + 11) % 2147483629 < 2147483629 := Int.emod_lt_of_pos _ (by decide)
    have hrr := mulOk_r (i := (q * q + 69621 * q + 11) % 2147483629) (j := (q * q + 69621 * q + 11) % 2147483629) ⟨by omega, by omega⟩
    have h40 : mulOk 40014 ((q * q + 69621 * q + 11) % 2147483629) = true := mulOk_l (by decide)
    generalize hr : (q * q + 69621 * q + 11) % 2147483629 = r at e3 e4 hrr h40 ⊢
    simp [b_draw, evCs, evC, evE, RS.of, R.bind, R.of, getV, bops, cops, gtO, modD, mulD, addD, fdivD, ixD, seqOf, view, hp', truth, bindT, h0, h1, ha, L2.atI, L2.ixN, h48, h10, hq, hbb, h69, hr, hrr, h40, List.set_set, penC]
/-- how many unlike things -/
def distV {α : Type} [DecidableEq α] : List α → Nat
  | [] => 0
  | x :: r => if x ∈ r then distV r else distV r + 1
theorem dist_eq {α : Type} [DecidableEq α] {n : Nat} {e : α → D} (g : GE n e) : ∀ xs : List α, distinct (xs.map e) = distV xs
  | [] => rfl
  | x :: r => by
    rw [List.map_cons]
    unfold distinct distV
    rw [anyEq_ge g, dist_eq g r]
    by_cases h : x ∈ r <;> simp [h]
theorem b_lenset {S : Store} {xs : List (Int × Int)} (h : xs.length < 60) : bltD S .lenset [eT (e2 .int .int) xs] = some (.int (distV xs : Nat)) := by
  show (if (decide ((xs.map (e2 D.int D.int)).length < 60) && (xs.map (e2 D.int D.int)).all pairI) = true then some (D.int (distinct (xs.map (e2 D.int D.int)))) else none) = _
  rw [decide_eq_true (by rw [List.length_map]; exact h), show (xs.map (e2 D.int D.int)).all pairI = true by
    rw [List.all_map, List.all_eq_true]; exact fun _ _ => rfl, dist_eq (n := 60) (ge_2 ge_int ge_int)]
  rfl
end Rs
end

section
set_option Elab.async false
set_option linter.all false
set_option maxRecDepth 100000
set_option maxHeartbeats 1000000
set_option autoImplicit false
/-! RsT4: typed rules for lists that change. Own work. -/
namespace Rs
open PySem

/-- the first part of a store stays -/
def Fr (S B : Store) : Prop := B.take S.length = S
theorem fr_refl {S : Store} : Fr S S := List.take_length
theorem fr_le {S B : Store} (h : Fr S B) : S.length ≤ B.length := by
  have := congrArg List.length h
  rw [List.length_take] at this
  omega
theorem fr_lt {S B : Store} {p : Nat} (h : Fr S B) (hp : p < S.length) : p < B.length := Nat.lt_of_lt_of_le hp (fr_le h)
theorem fr_set {S B : Store} {k : Nat} {c : Cell} (h : Fr S B) (hk : S.length ≤ k) : Fr S (List.set B k c) := by
  unfold Fr at h ⊢
  rw [List.take_set_of_le hk, h]
theorem fr_push {S B : Store} {c : Cell} (h : Fr S B) : Fr S (B ++ [c]) := by
  unfold Fr
  rw [List.take_append_of_le_length (fr_le h)]
  exact h
theorem fr_trans {S B C : Store} (h : Fr S B) (g : Fr B C) : Fr S C := by
  unfold Fr at h g ⊢
  have hl := fr_le h
  calc C.take S.length = (C.take B.length).take S.length := by rw [List.take_take, Nat.min_eq_left hl]
    _ = S := by rw [g, h]
theorem get_lt {B : Store} {k : Nat} {c : Cell} (h : B[k]? = some c) : k < B.length := (List.getElem?_eq_some_iff.mp h).1
theorem get_pen {B : Store} {p k : Nat} {c c0 : Cell} (h : B[k]? = some c) (hn : p ≠ k) : (List.set B p c0)[k]? = some c := by rw [List.getElem?_set_ne hn]; exact h
theorem get_set {B : Store} {k : Nat} {c c0 : Cell} (h : B[k]? = some c0) : (List.set B k c)[k]? = some c := List.getElem?_set_self (get_lt h)
theorem get_new {B : Store} {c : Cell} : (B ++ [c])[B.length]? = some c := by simp
theorem get_push {B : Store} {k : Nat} {c c0 : Cell} (h : B[k]? = some c) : (B ++ [c0])[k]? = some c := by rw [List.getElem?_append_left (get_lt h)]; exact h
theorem set_swap {B : Store} {p k : Nat} {c d : Cell} (h : p ≠ k) : List.set (List.set B p c) k d = List.set (List.set B k d) p c := by rw [List.set_comm _ _ h]
theorem push_pen {B : Store} {p : Nat} {c d : Cell} (h : p < B.length) : List.set B p c ++ [d] = List.set (B ++ [d]) p c := by rw [List.set_append_left _ _ h]
theorem below_cln {n : Nat} : ∀ (m : Nat) (d : D), cln m d = true → below n m d = true
  | 0, d, h => by cases d <;> cases h
  | m + 1, d, h => by
    cases d with
    | tup xs =>
      have h : xs.all (cln m) = true := h
      show xs.all (below n m) = true
      rw [List.all_eq_true] at h ⊢
      exact fun x hx => below_cln m x (h x hx)
    | lst xs =>
      have h : xs.all (cln m) = true := h
      show xs.all (below n m) = true
      rw [List.all_eq_true] at h ⊢
      exact fun x hx => below_cln m x (h x hx)
    | dct kvs => cases h
    | ref k => cases h
    | exc c => cases h
    | _ => rfl
theorem cell_ce {α : Type} {e : α → D} {xs : List α} (h : CE 60 e) (n : Nat) : cellBelow n (.lst (xs.map e)) = true := by
  show (xs.map e).all (below n DEP) = true
  rw [List.all_map, List.all_eq_true]
  exact fun x _ => below_cln _ _ (h x)
/-- kinds with what may be any data: their cells are clean by a fact -/
theorem cell_cln {xs : List D} (h : ∀ x ∈ xs, cln DEP x = true) (n : Nat) : cellBelow n (.lst xs) = true := by
  show xs.all (below n DEP) = true
  rw [List.all_eq_true]
  exact fun x hx => below_cln _ _ (h x hx)
theorem oks_setL {B : Store} {k : Nat} {c : Cell} (h : OKS B) (hc : ∀ n, cellBelow n c = true) : OKS (List.set B k c) := oks_set h hc
theorem oks_pushL {B : Store} {c : Cell} (h : OKS B) (hc : ∀ n, cellBelow n c = true) : OKS (B ++ [c]) := oks_push' h (hc _)

section
variable {X : Fx} {env : Nv} {S S1 S2 : Store}
theorem ev_mutM {α : Type} {e : α → D} {xs : List α} {a : E} (h : evE X a env S = .ok (eL e xs) S1) : evE X (.mut a) env S = .ok (.ref S1.length) (S1 ++ [.lst (xs.map e)]) := ev_mutL h
theorem ev_mutP {α : Type} {e : α → D} {xs : List α} {a : E} {B : Store} {p : Nat} {q : Pen} (h : evE X a env S = .ok (eL e xs) (List.set B p (penC q))) (hp : p < B.length) : evE X (.mut a) env S = .ok (.ref B.length) (List.set (B ++ [.lst (xs.map e)]) p (penC q)) := by
  rw [← push_pen hp]
  have := ev_mutL h
  rwa [List.length_set] at this
theorem ev_appM {α : Type} {e : α → D} {xs ys : List α} {v : α} {a b : E} {k : Nat} (ha : evE X a env S = .ok (.ref k) S1) (h1 : S1[k]? = some (.lst (ys.map e))) (he : evE X b env S1 = .ok (e v) S2) (h2 : S2[k]? = some (.lst (xs.map e))) (hl : xs.length < LIM) :
    evE X (.app a b) env S = .ok .non (List.set S2 k (.lst ((xs ++ [v]).map e))) := by
  have := ev_app ha h1 he h2 (by rw [List.length_map]; exact hl)
  rw [this, List.map_append]; rfl
theorem ev_extM {α : Type} {e : α → D} {xs ys zs : List α} {a b : E} {k : Nat} (ha : evE X a env S = .ok (.ref k) S1) (h1 : S1[k]? = some (.lst (ys.map e))) (he : evE X b env S1 = .ok (eL e zs) S2) (h2 : S2[k]? = some (.lst (xs.map e))) (hl : xs.length + zs.length ≤ LIM) :
    evE X (.ext a b) env S = .ok .non (List.set S2 k (.lst ((xs ++ zs).map e))) := by
  have := ev_ext ha h1 he (zs := zs.map e) rfl h2 (by rw [List.length_map, List.length_map]; exact hl)
  rw [this, List.map_append]
/-- a list without the one at a place -/
def popI {α : Type} (xs : List α) (i : Int) : List α := match L2.ixN xs.length i with
  | some n => xs.eraseIdx n
  | none => xs
theorem map_eraseIdx' {α β : Type} (f : α → β) : ∀ (xs : List α) (n : Nat), (xs.eraseIdx n).map f = (xs.map f).eraseIdx n
  | [], _ => rfl
  | _ :: _, 0 => rfl
  | x :: xs, n + 1 => congrArg (f x :: ·) (map_eraseIdx' f xs n)
theorem ev_ppiM {α : Type} [Inhabited α] {e : α → D} {xs ys : List α} {a b : E} {k : Nat} {i : Int} (ha : evE X a env S = .ok (.ref k) S1) (h1 : S1[k]? = some (.lst (ys.map e))) (he : evE X b env S1 = .ok (.int i) S2) (h2 : S2[k]? = some (.lst (xs.map e))) (hi : okIx xs i) (hl : xs.length ≤ LIM) :
    evE X (.ppi a b) env S = .ok (e (gI xs i)) (List.set S2 k (.lst ((popI xs i).map e))) := by
  unfold evE; rw [ha]
  have hv : view S1 (.ref k) = .lst (ys.map e) := by unfold view; simp only [h1]
  show (match view S1 (.ref k) with
    | .lst _ => _
    | _ => _) = _
  rw [hv]
  show (evE X b env S1).bind _ = _
  rw [he]
  show (match S2[k]? with
    | some (.lst xs) => _
    | _ => _) = _
  rw [h2]
  obtain ⟨n, hn, hlt⟩ := ixN_some hi
  show (match L2.ixN (xs.map e).length i with
    | some n => _
    | none => _) = _
  rw [List.length_map, hn]
  have hg : (xs.map e)[n]? = some (e (gI xs i)) := by
    rw [List.getElem?_map]
    have : gI xs i = xs[n] := by
      unfold gI L2.atI
      rw [hn]
      show (xs[n]?).getD default = _
      rw [List.getElem?_eq_getElem hlt]; rfl
    rw [this, List.getElem?_eq_getElem hlt]; rfl
  show (match (xs.map e)[n]? with
    | some d => _
    | none => _) = _
  rw [hg]
  have hp : (popI xs i).map e = (xs.map e).eraseIdx n := by
    unfold popI; rw [hn]
    show (xs.eraseIdx n).map e = _
    exact map_eraseIdx' e xs n
  rw [hp]
  first
    | rfl
    | exact if_pos (by rw [List.length_map]; exact hl)
    | exact if_pos hl
theorem zipWith_enc {α β : Type} (e : α → D) (f : β → D) : ∀ (xs : List α) (ys : List β), List.zipWith (fun a b => D.tup [a, b]) (xs.map e) (ys.map f) = (xs.zip ys).map (e2 e f)
  | [], _ => by simp
  | _ :: _, [] => by simp
  | x :: xs, y :: ys => congrArg (D.tup [e x, f y] :: ·) (zipWith_enc e f xs ys)
theorem b_lzip {S : Store} {α β : Type} {e : α → D} {f : β → D} {xs : List α} {ys : List β} (h : xs.length ≤ LIM) : bltD S .lzip [eT e xs, eT f ys] = some (eL (e2 e f) (xs.zip ys)) := by
  show (if (xs.map e).length ≤ LIM then some (D.lst (List.zipWith (fun a b => D.tup [a, b]) (xs.map e) (ys.map f))) else none) = _
  rw [if_pos (by rw [List.length_map]; exact h), zipWith_enc]
  rfl
/-- a list that may change, as an operand -/
theorem view_rf {k : Nat} {ds : List D} (h : S[k]? = some (.lst ds)) : view S (.ref k) = .lst ds := by unfold view; simp only [h]
theorem b_ref {k : Nat} {o : Blt} {α : Type} {e : α → D} {xs : List α} {z : D} (h : S[k]? = some (.lst (xs.map e))) (r : bltD S o [eL e xs] = some z) : bltD S o [.ref k] = some z := by
  have hv := view_rf h
  have hv2 : view S (eL e xs) = .lst (xs.map e) := rfl
  rw [← r]
  cases o with
  | len => simp only [bltD, lenD, seqOf, hv, hv2]
  | max => simp only [bltD, maxD, hv, hv2]
  | min => simp only [bltD, minD, hv, hv2]
  | sum => simp only [bltD, sumD, hv, hv2]
  | all => simp only [bltD, allD, hv, hv2]
  | any => simp only [bltD, anyD, hv, hv2]
  | sorted => simp only [bltD, sortedD, hv, hv2]
  | tuple => simp only [bltD, tupleD, hv, hv2]
  | list => simp only [bltD, listD, hv, hv2]
  | repr => simp only [bltD, reprD, hv, hv2]
  | lenset => simp only [bltD, lensetD, hv, hv2]
  | lzip => rfl
  | abs => rfl
  | int => rfl
  | str => rfl
  | set => rfl
theorem x_ref {k : Nat} {α : Type} [Inhabited α] {e : α → D} {xs : List α} {i : Int} (h : S[k]? = some (.lst (xs.map e))) (hi : okIx xs i) : ixD S (.ref k) (.int i) = some (e (gI xs i)) := by
  have hv := view_rf h
  have : seqOf S (.ref k) = some (xs.map e) := by unfold seqOf; simp only [hv]
  unfold ixD; simp only [this]
  exact x_L (S := S) hi
theorem s_ref {k : Nat} {α : Type} {e : α → D} {xs : List α} {lo hi : Option Int} (h : S[k]? = some (.lst (xs.map e))) : slD S (.ref k) lo hi = some (eL e (cut xs lo hi)) := by
  have hv := view_rf h
  unfold slD; simp only [hv]; exact s_L (S := S)
theorem o_ref1 {k : Nat} {α : Type} {e : α → D} {xs ys : List α} (h : S[k]? = some (.lst (xs.map e))) (hl : xs.length + ys.length ≤ LIM) : bops S .add (.ref k) (eL e ys) = some (eL e (xs ++ ys)) := by
  rw [← o_addL (S := S) hl]
  have hv := view_rf h
  have hv2 : view S (eL e xs) = .lst (xs.map e) := rfl
  have h3 : addD S (.ref k) (eL e ys) = addD S (eL e xs) (eL e ys) := by
    unfold addD
    simp only [hv]
    rfl
  exact h3
theorem o_ref_eq {k : Nat} {α : Type} [DecidableEq α] {e : α → D} (g : GE 59 e) {xs ys : List α} (h : S[k]? = some (.lst (xs.map e))) : cops S .eq (.ref k) (eL e ys) = some (eqB xs ys) := by
  rw [← o_eq (S := S) (ge_L g)]
  have hv := view_rf h
  have h3 : eqD S (.ref k) (eL e ys) = eqD S (eL e xs) (eL e ys) := by
    unfold eqD
    simp only [hv]
    rfl
  exact h3
theorem o_ref_ne {k : Nat} {α : Type} [DecidableEq α] {e : α → D} (g : GE 59 e) {xs ys : List α} (h : S[k]? = some (.lst (xs.map e))) : cops S .ne (.ref k) (eL e ys) = some (!eqB xs ys) := by
  have := o_ref_eq g (ys := ys) h
  show (eqD S _ _).map (!·) = _
  rw [show eqD S (.ref k) (eL e ys) = some (eqB xs ys) from this]; rfl
theorem o_ref_in {k : Nat} {α : Type} [DecidableEq α] {e : α → D} (g : GE 60 e) {x : α} {xs : List α} (h : S[k]? = some (.lst (xs.map e))) : cops S .isin (e x) (.ref k) = some (memB x xs) := by
  rw [← o_inL (S := S) g]
  have hv := view_rf h
  have h3 : inD S (e x) (.ref k) = inD S (e x) (eL e xs) := by
    cases e x <;> (unfold inD; simp only [hv]; rfl)
  exact h3
theorem o_ref_nin {k : Nat} {α : Type} [DecidableEq α] {e : α → D} (g : GE 60 e) {x : α} {xs : List α} (h : S[k]? = some (.lst (xs.map e))) : cops S .nin (e x) (.ref k) = some (!memB x xs) := by
  have := o_ref_in g (x := x) h
  show (inD S _ _).map (!·) = _
  rw [show inD S (e x) (.ref k) = some (memB x xs) from this]; rfl
theorem t_ref {k : Nat} {α : Type} {e : α → D} {xs : List α} (h : S[k]? = some (.lst (xs.map e))) : truth S (.ref k) = some (!xs.isEmpty) := by
  unfold truth; simp only [h]; cases xs <;> rfl
theorem m_ref {k : Nat} {α : Type} [DecidableEq α] {e : α → D} (g : GE 60 e) {xs : List α} {x : α} (h : S[k]? = some (.lst (xs.map e))) : mthD S .count (.ref k) [e x] = some (.int (cntV xs x)) := by
  rw [← m_cnt (S := S) g]
  have hv := view_rf h
  have h3 : cntD S (.ref k) [e x] = cntD S (eL e xs) [e x] := by
    unfold cntD
    simp only [hv]
    rfl
  exact h3
theorem ev_frzM {α : Type} {e : α → D} {xs : List α} {a : E} {k : Nat} (ha : evE X a env S = .ok (.ref k) S1) (h : S1[k]? = some (.lst (xs.map e))) : evE X (.frz a) env S = .ok (eL e xs) (List.set S1 k .dead) := ev_frzL ha h
end
theorem dead_below (n : Nat) : cellBelow n .dead = true := rfl
theorem for_fld2 {X : Fx} {α σ : Type} {P : σ → Nv → Store → Prop} {e : α → D} {t : Tg} {b : Cs} {step : σ → α → σ} {ok : σ → α → Prop}
    (hb : ∀ s x env S, P s env S → ok s x → ∃ env1 S1, bindT X t (e x) env S = .ok env1 S1 ∧ NxR P (evCs X b env1 S1) (step s x)) (xs : List α) (s : σ) (env : Nv) (S : Store) (hp : P s env S) (hk : fldOk step ok xs s) {v : σ} (hv : xs.foldl step s = v) :
    ∃ e' S', forL X t (fun e S => evCs X b e S) (xs.map e) env S = .ok (.nx e') S' ∧ P v e' S' := hv ▸ for_fld hb xs s env S hp hk
/-! what a def gives where lists changed -/
theorem qp_leafB {ρ : Type} {e : ρ → D} {S B : Store} {v : ρ} (fr : Fr S B) (h : cln DEP (e v) = true) : QP e S v (e v) B := ⟨fz_cln _ _ h, fr⟩
theorem qq_leafB {ρ : Type} {e : ρ → D} {S B : Store} {p : Nat} {v : ρ × Pen} (fr : Fr S B) (hp : p < S.length) (h : cln DEP (e v.1) = true) : QQ e S p v (e v.1) (List.set B p (penC v.2)) := by
  refine ⟨fz_cln _ _ h, ?_⟩
  rw [List.take_set]
  unfold Fr at fr
  rw [fr]
theorem fz_ref {α : Type} {e : α → D} {xs : List α} {S : Store} {n k : Nat} (h : S[k]? = some (.lst (xs.map e))) (hk : n ≤ k) (hc : ∀ x ∈ xs, cln 59 (e x) = true) : fzD S n DEP (.ref k) = some (eL e xs) := by
  show (if k < n then some (D.ref k) else match S[k]? with
    | some (.lst xs) => (xs.mapM (fzD S n 59)).map D.lst
    | _ => none) = _
  rw [if_neg (by omega), h]
  show ((xs.map e).mapM (fzD S n 59)).map D.lst = _
  rw [cln_map (fz_cln 59) (xs.map e) (by rw [List.all_map, List.all_eq_true]; exact hc)]
  rfl
theorem qp_leafR {α : Type} {e : α → D} {S B : Store} {xs : List α} {k : Nat} (fr : Fr S B) (h : B[k]? = some (.lst (xs.map e))) (hk : S.length ≤ k) (hc : CE 59 e) : QP (eL e) S xs (.ref k) B := ⟨fz_ref h hk fun x _ => hc x, fr⟩
theorem qq_leafR {α : Type} {e : α → D} {S B : Store} {p k : Nat} {v : List α × Pen} (fr : Fr S B) (hp : p < S.length) (h : (List.set B p (penC v.2))[k]? = some (.lst (v.1.map e))) (hk : S.length ≤ k) (hc : CE 59 e) : QQ (eL e) S p v (.ref k) (List.set B p (penC v.2)) := by
  refine ⟨fz_ref h hk fun x _ => hc x, ?_⟩
  rw [List.take_set]
  unfold Fr at fr
  rw [fr]
theorem ne_pen {S : Store} {p k : Nat} (hp : p < S.length) (hk : S.length ≤ k) : p ≠ k := by omega
end Rs
end

section
set_option Elab.async false
set_option linter.all false
set_option maxRecDepth 100000
set_option maxHeartbeats 1000000
set_option autoImplicit false
namespace Rs
open PySem
@[irreducible] def v_is_whole (thing : Int) : Bool := (true && (!false))
@[irreducible] def ok_is_whole (thing : Int) : Prop := True
@[irreducible] def v_is_among (thing : Int) (low : Int) (high : Int) : Bool := ((v_is_whole thing) && ((decide (low ≤ thing)) && (decide (thing ≤ high))))
@[irreducible] def ok_is_among (thing : Int) (low : Int) (high : Int) : Prop := ok_is_whole thing
@[irreducible] def v_are_some (thing : (List (Int × Int))) (low : Int) (high : Int) : Bool := (true && ((decide (low ≤ (thing.length : Int))) && (decide ((thing.length : Int) ≤ high))))
@[irreducible] def ok_are_some (thing : (List (Int × Int))) (low : Int) (high : Int) : Prop := True
@[irreducible] def v_are_someA (thing : (Int × Int)) (low : Int) (high : Int) : Bool := (true && ((decide (low ≤ (2 : Int))) && (decide ((2 : Int) ≤ high))))
@[irreducible] def ok_are_someA (thing : (Int × Int)) (low : Int) (high : Int) : Prop := True
@[irreducible] def v_are_numbers (thing : (List Int)) (many : Int) : Bool := (if ((!true) || (!(thing.all fun x2 => (v_is_among x2 (0 : Int) (many - (1 : Int)))))) = true then false else ((thing.zip (cut thing (some (1 : Int)) none)).all fun x5 => (decide (x5.1 < x5.2))))
@[irreducible] def ok_are_numbers (thing : (List Int)) (many : Int) : Prop := ((!true) = false → ((∀ x2 ∈ thing, (ok_is_among x2 (0 : Int) (many - (1 : Int)))) ∧ (thing.length ≤ LIM))) ∧ (((!true) || (!(thing.all fun x2 => (v_is_among x2 (0 : Int) (many - (1 : Int)))))) = false → ((thing.zip (cut thing (some (1 : Int)) none)).length ≤ LIM))
@[irreducible] def v_is_place (thing : (Int × Int)) : Bool := ((v_are_someA thing (2 : Int) (2 : Int)) && ([thing.1, thing.2].all fun x2 => (v_is_among x2 (0 : Int) (40 : Int))))
@[irreducible] def ok_is_place (thing : (Int × Int)) : Prop := (ok_are_someA thing (2 : Int) (2 : Int)) ∧ ((v_are_someA thing (2 : Int) (2 : Int)) = true → ((∀ x2 ∈ [thing.1, thing.2], (ok_is_among x2 (0 : Int) (40 : Int))) ∧ ([thing.1, thing.2].length ≤ LIM)))
@[irreducible] def v_bend (one : (Int × Int)) (other : (Int × Int)) (third : (Int × Int)) : Int := (((other.1 - one.1) * (third.2 - one.2)) - ((other.2 - one.2) * (third.1 - one.1)))
@[irreducible] def ok_bend (one : (Int × Int)) (other : (Int × Int)) (third : (Int × Int)) : Prop := (mulOk (other.1 - one.1) (third.2 - one.2) = true) ∧ (mulOk (other.2 - one.2) (third.1 - one.1) = true)
@[irreducible] def v_threes (many : Int) : (List (Int × Int × Int)) := ((rgI 0 many).flatMap fun x1 => ((rgI (x1 + (1 : Int)) many).flatMap fun x3 => ((rgI (x3 + (1 : Int)) many).flatMap fun x5 => [(x1, x3, x5)])))
@[irreducible] def ok_threes (many : Int) : Prop := (-1000000 ≤ many ∧ many ≤ 1000000) ∧ (∀ x1 ∈ (rgI 0 many), ((-1000000 ≤ (x1 + (1 : Int)) ∧ (x1 + (1 : Int)) ≤ 1000000) ∧ (-1000000 ≤ many ∧ many ≤ 1000000) ∧ (∀ x3 ∈ (rgI (x1 + (1 : Int)) many), ((-1000000 ≤ (x3 + (1 : Int)) ∧ (x3 + (1 : Int)) ≤ 1000000) ∧ (-1000000 ≤ many ∧ many ≤ 1000000))))) ∧ (((rgI 0 many).flatMap fun x1 => ((rgI (x1 + (1 : Int)) many).flatMap fun x3 => ((rgI (x3 + (1 : Int)) many).flatMap fun x5 => [(x1, x3, x5)]))).length ≤ LIM)
@[irreducible] def v_is_field (thing : (List (Int × Int))) : Bool := (if ((!(v_are_some thing (1 : Int) (8 : Int))) || (!(thing.all fun x2 => (v_is_place x2)))) = true then false else (if (decide ((distV thing : Int) < (thing.length : Int))) = true then false else ((v_threes (thing.length : Int)).all fun x6 => (!eqB (v_bend (gI thing x6.1) (gI thing x6.2.1) (gI thing x6.2.2)) (0 : Int)))))
@[irreducible] def ok_is_field (thing : (List (Int × Int))) : Prop := (ok_are_some thing (1 : Int) (8 : Int)) ∧ ((!(v_are_some thing (1 : Int) (8 : Int))) = false → ((∀ x2 ∈ thing, (ok_is_place x2)) ∧ (thing.length ≤ LIM))) ∧ (((!(v_are_some thing (1 : Int) (8 : Int))) || (!(thing.all fun x2 => (v_is_place x2)))) = false → ((thing.length < 60) ∧ ((decide ((distV thing : Int) < (thing.length : Int))) = false → ((ok_threes (thing.length : Int)) ∧ (∀ x6 ∈ (v_threes (thing.length : Int)), ((okIx thing x6.1) ∧ (okIx thing x6.2.1) ∧ (okIx thing x6.2.2) ∧ (ok_bend (gI thing x6.1) (gI thing x6.2.1) (gI thing x6.2.2)))) ∧ ((v_threes (thing.length : Int)).length ≤ LIM)))))
@[irreducible] def v_need_field (thing : (List (Int × Int))) : Unit := ()
@[irreducible] def ok_need_field (thing : (List (Int × Int))) : Prop := (ok_is_field thing) ∧ ((!(v_is_field thing)) = false)
@[irreducible] def v_is_lot (field_ : (List (Int × Int))) (thing : (List Int)) : Bool := (v_are_numbers thing (field_.length : Int))
@[irreducible] def ok_is_lot (field_ : (List (Int × Int))) (thing : (List Int)) : Prop := (ok_need_field field_) ∧ (ok_are_numbers thing (field_.length : Int))
@[irreducible] def v_need_lot (field_ : (List (Int × Int))) (thing : (List Int)) : Unit := ()
@[irreducible] def ok_need_lot (field_ : (List (Int × Int))) (thing : (List Int)) : Prop := (ok_is_lot field_ thing) ∧ ((!(v_is_lot field_ thing)) = false)
@[irreducible] def v_need_stake (some_ : (List Int)) (thing : Int) : Unit := ()
@[irreducible] def ok_need_stake (some_ : (List Int)) (thing : Int) : Prop := (ok_is_whole thing) ∧ (((!(v_is_whole thing)) || (!memB thing some_)) = false)
@[irreducible] def v_need_stakeA (some_ : (List Int)) (thing : Int) : Unit := ()
@[irreducible] def ok_need_stakeA (some_ : (List Int)) (thing : Int) : Prop := (ok_is_whole thing) ∧ (((!(v_is_whole thing)) || (!memB thing some_)) = false)
@[irreducible] def v_side (field_ : (List (Int × Int))) (a : Int) (b : Int) (c : Int) : Int := ((if (decide ((0 : Int) < (v_bend (gI field_ a) (gI field_ b) (gI field_ c)))) = true then (1 : Int) else 0) - (if (decide ((v_bend (gI field_ a) (gI field_ b) (gI field_ c)) < (0 : Int))) = true then (1 : Int) else 0))
@[irreducible] def ok_side (field_ : (List (Int × Int))) (a : Int) (b : Int) (c : Int) : Prop := (okIx field_ a) ∧ (okIx field_ b) ∧ (okIx field_ c) ∧ (ok_bend (gI field_ a) (gI field_ b) (gI field_ c))
@[irreducible] def v_turn (field_ : (List (Int × Int))) (a : Int) (b : Int) (c : Int) : Int := (v_side field_ a b c)
@[irreducible] def ok_turn (field_ : (List (Int × Int))) (a : Int) (b : Int) (c : Int) : Prop := (ok_need_field field_) ∧ (-1000000 ≤ (field_.length : Int) ∧ (field_.length : Int) ≤ 1000000) ∧ (ok_need_stakeA (rgI 0 (field_.length : Int)) a) ∧ ((rgI 0 (field_.length : Int)).length ≤ LIM) ∧ (ok_need_stakeA ((rgI 0 (field_.length : Int)).filter fun x1 => (!eqB x1 a)) b) ∧ ((rgI 0 (field_.length : Int)).length ≤ LIM) ∧ (ok_need_stakeA ((rgI 0 (field_.length : Int)).filter fun x3 => (!memB x3 [a, b])) c) ∧ (ok_side field_ a b c)
@[irreducible] def v_alike_b5 (field_ : (List (Int × Int))) (other : (List (Int × Int))) (s6 : Unit) (x8 : (Int × Int × Int)) : Lp D (Unit) := (if (!eqB (v_side field_ x8.1 x8.2.1 x8.2.2) (v_side other x8.1 x8.2.1 x8.2.2)) = true then (Lp.rt (D.tup [(D.str (Str.ofString "apart")), (D.int x8.1), (D.int x8.2.1), (D.int x8.2.2)])) else (Lp.nx ()))
@[irreducible] def ok_alike_b5 (field_ : (List (Int × Int))) (other : (List (Int × Int))) (s6 : Unit) (x8 : (Int × Int × Int)) : Prop := (ok_side field_ x8.1 x8.2.1 x8.2.2) ∧ (ok_side other x8.1 x8.2.1 x8.2.2) ∧ ((!eqB (v_side field_ x8.1 x8.2.1 x8.2.2) (v_side other x8.1 x8.2.1 x8.2.2)) = true → (cln DEP (D.tup [(D.str (Str.ofString "apart")), (D.int x8.1), (D.int x8.2.1), (D.int x8.2.2)]) = true))
@[irreducible] def v_alike (field_ : (List (Int × Int))) (other : (List (Int × Int))) : D := ((forV (v_alike_b5 field_ other) (v_threes (field_.length : Int)) ()).fin (fun s11 => (D.tup [(D.str (Str.ofString "alike"))])) (fun r => r))
@[irreducible] def ok_alike (field_ : (List (Int × Int))) (other : (List (Int × Int))) : Prop := (ok_need_field field_) ∧ (ok_need_field other) ∧ ((!eqB (field_.length : Int) (other.length : Int)) = false) ∧ (ok_threes (field_.length : Int)) ∧ (forOk (v_alike_b5 field_ other) (ok_alike_b5 field_ other) (v_threes (field_.length : Int)) ()) ∧ (∀ s11, (forV (v_alike_b5 field_ other) (v_threes (field_.length : Int)) ()) = .nx s11 → (cln DEP (D.tup [(D.str (Str.ofString "alike"))]) = true))
@[irreducible] def v_onward_b3 (field_ : (List (Int × Int))) (lot : (List Int)) (stake : Int) (s4 : (List Int)) (x6 : Int) : (List Int) := (if ((!eqB x6 stake) && ((lot.filter fun x7 => (!memB x7 [stake, x6])).all fun x10 => (eqB (v_side field_ stake x6 x10) (1 : Int)))) = true then (s4 ++ [x6]) else s4)
@[irreducible] def ok_onward_b3 (field_ : (List (Int × Int))) (lot : (List Int)) (stake : Int) (s4 : (List Int)) (x6 : Int) : Prop := (lot.length ≤ LIM) ∧ ((!eqB x6 stake) = true → ((∀ x10 ∈ (lot.filter fun x7 => (!memB x7 [stake, x6])), (ok_side field_ stake x6 x10)) ∧ ((lot.filter fun x7 => (!memB x7 [stake, x6])).length ≤ LIM))) ∧ (((!eqB x6 stake) && ((lot.filter fun x7 => (!memB x7 [stake, x6])).all fun x10 => (eqB (v_side field_ stake x6 x10) (1 : Int)))) = true → (s4.length < LIM))
def v_onward_l14 (field_ : (List (Int × Int))) (lot : (List Int)) (stake : Int) : (List Int) := (List.foldl (v_onward_b3 field_ lot stake) ([] : (List Int)) lot)
@[irreducible] def v_onward (field_ : (List (Int × Int))) (lot : (List Int)) (stake : Int) : (List Int) := (v_onward_l14 field_ lot stake)
@[irreducible] def ok_onward (field_ : (List (Int × Int))) (lot : (List Int)) (stake : Int) : Prop := fldOk (v_onward_b3 field_ lot stake) (ok_onward_b3 field_ lot stake) lot ([] : (List Int))
@[irreducible] def v_is_corner (field_ : (List (Int × Int))) (lot : (List Int)) (stake : Int) : Bool := ((decide ((lot.length : Int) < (3 : Int))) || (!eqB (v_onward field_ lot stake) ([] : (List Int))))
@[irreducible] def ok_is_corner (field_ : (List (Int × Int))) (lot : (List Int)) (stake : Int) : Prop := (decide ((lot.length : Int) < (3 : Int))) = false → (ok_onward field_ lot stake)
@[irreducible] def v_corners (field_ : (List (Int × Int))) (lot : (List Int)) : (List Int) := (lot.filter fun x1 => (v_is_corner field_ lot x1))
@[irreducible] def ok_corners (field_ : (List (Int × Int))) (lot : (List Int)) : Prop := (∀ x1 ∈ lot, (ok_is_corner field_ lot x1)) ∧ (lot.length ≤ LIM)
def v_rope_by_there_2 (field_ : (List (Int × Int))) (lot : (List Int)) : Int := (gI (v_onward field_ lot (gI (cut (v_corners field_ lot) none (some (1 : Int))) (-(1 : Int)))) (0 : Int))
@[irreducible] def v_rope_by_b3 (field_ : (List (Int × Int))) (lot : (List Int)) (s4 : (List Int) × Int) : Lp Unit ((List Int) × Int) := (Lp.nx ((s4.1 ++ [s4.2]), (gI (v_onward field_ lot s4.2) (0 : Int))))
@[irreducible] def ok_rope_by_b3 (field_ : (List (Int × Int))) (lot : (List Int)) (s4 : (List Int) × Int) : Prop := (s4.1.length + [s4.2].length ≤ LIM) ∧ (ok_onward field_ lot s4.2) ∧ (okIx (v_onward field_ lot s4.2) (0 : Int))
def v_rope_by_b3c (field_ : (List (Int × Int))) (lot : (List Int)) (s4 : (List Int) × Int) : Bool := (!eqB s4.2 (gI s4.1 (0 : Int)))
def ok_rope_by_b3c (field_ : (List (Int × Int))) (lot : (List Int)) (s4 : (List Int) × Int) : Prop := okIx s4.1 (0 : Int)
@[irreducible] def v_rope_by (field_ : (List (Int × Int))) (lot : (List Int)) : (List Int) := (if (decide ((lot.length : Int) < (3 : Int))) = true then lot else ((whlV (v_rope_by_b3c field_ lot) (v_rope_by_b3 field_ lot) WHL ((cut (v_corners field_ lot) none (some (1 : Int))), (v_rope_by_there_2 field_ lot))).fin (fun s7 => s7.1) (fun _ => default)))
@[irreducible] def ok_rope_by (field_ : (List (Int × Int))) (lot : (List Int)) : Prop := (decide ((lot.length : Int) < (3 : Int))) = false → ((ok_corners field_ lot) ∧ (okIx (cut (v_corners field_ lot) none (some (1 : Int))) (-(1 : Int))) ∧ (ok_onward field_ lot (gI (cut (v_corners field_ lot) none (some (1 : Int))) (-(1 : Int)))) ∧ (okIx (v_onward field_ lot (gI (cut (v_corners field_ lot) none (some (1 : Int))) (-(1 : Int)))) (0 : Int)) ∧ (whlOk (v_rope_by_b3c field_ lot) (v_rope_by_b3 field_ lot) (ok_rope_by_b3c field_ lot) (ok_rope_by_b3 field_ lot) WHL ((cut (v_corners field_ lot) none (some (1 : Int))), (v_rope_by_there_2 field_ lot))))
@[irreducible] def v_rope (field_ : (List (Int × Int))) (lot : (List Int)) : (List Int) := (v_rope_by field_ lot)
@[irreducible] def ok_rope (field_ : (List (Int × Int))) (lot : (List Int)) : Prop := (ok_need_lot field_ lot) ∧ (ok_rope_by field_ lot)
def v_within_by_both_2 (field_ : (List (Int × Int))) (lot : (List Int)) : (List (Int × Int)) := ((v_rope_by field_ lot).zip ((cut (v_rope_by field_ lot) (some (1 : Int)) none) ++ (cut (v_rope_by field_ lot) none (some (1 : Int)))))
@[irreducible] def v_within_by (field_ : (List (Int × Int))) (lot : (List Int)) : (List Int) := (if (decide ((lot.length : Int) < (3 : Int))) = true then ([] : (List Int)) else ((rgI 0 (field_.length : Int)).filter fun x3 => ((v_within_by_both_2 field_ lot).all fun x5 => (eqB (v_side field_ x5.1 x5.2 x3) (1 : Int)))))
@[irreducible] def ok_within_by (field_ : (List (Int × Int))) (lot : (List Int)) : Prop := (decide ((lot.length : Int) < (3 : Int))) = false → ((ok_rope_by field_ lot) ∧ ((cut (v_rope_by field_ lot) (some (1 : Int)) none).length + (cut (v_rope_by field_ lot) none (some (1 : Int))).length ≤ LIM) ∧ ((v_rope_by field_ lot).length ≤ LIM) ∧ (-1000000 ≤ (field_.length : Int) ∧ (field_.length : Int) ≤ 1000000) ∧ (∀ x3 ∈ (rgI 0 (field_.length : Int)), ((∀ x5 ∈ (v_within_by_both_2 field_ lot), (ok_side field_ x5.1 x5.2 x3)) ∧ ((v_within_by_both_2 field_ lot).length ≤ LIM))) ∧ ((rgI 0 (field_.length : Int)).length ≤ LIM))
@[irreducible] def v_withinA (field_ : (List (Int × Int))) (lot : (List Int)) : (List Int) := (v_within_by field_ lot)
@[irreducible] def ok_withinA (field_ : (List (Int × Int))) (lot : (List Int)) : Prop := (ok_need_lot field_ lot) ∧ (ok_within_by field_ lot)
@[irreducible] def v_far (place : (Int × Int)) (direction : (Int × Int)) : Int := ((place.1 * direction.1) + (place.2 * direction.2))
@[irreducible] def ok_far (place : (Int × Int)) (direction : (Int × Int)) : Prop := (mulOk place.1 direction.1 = true) ∧ (mulOk place.2 direction.2 = true)
@[irreducible] def v_is_farthest (field_ : (List (Int × Int))) (lot : (List Int)) (stake : Int) (direction : (Int × Int)) : Bool := (((lot.filter fun x1 => (!eqB x1 stake)).map fun x1 => (decide ((v_far (gI field_ x1) direction) < (v_far (gI field_ stake) direction)))).all id)
@[irreducible] def ok_is_farthest (field_ : (List (Int × Int))) (lot : (List Int)) (stake : Int) (direction : (Int × Int)) : Prop := (okIx field_ stake) ∧ (ok_far (gI field_ stake) direction) ∧ (∀ x1 ∈ lot, ((!eqB x1 stake) = true → ((okIx field_ x1) ∧ (ok_far (gI field_ x1) direction)))) ∧ (lot.length ≤ LIM)
@[irreducible] def v_outward (begin : (Int × Int)) (end_ : (Int × Int)) : (Int × Int) := ((end_.2 - begin.2), (begin.1 - end_.1))
@[irreducible] def ok_outward (begin : (Int × Int)) (end_ : (Int × Int)) : Prop := True
@[irreducible] def v_are_about (field_ : (List (Int × Int))) (three : (List Int)) (stake : Int) : Bool := ((eqB (v_side field_ (gI three 0) (gI three 1) stake) (v_side field_ (gI three 1) (gI three 2) stake)) && ((eqB (v_side field_ (gI three 1) (gI three 2) stake) (v_side field_ (gI three 2) (gI three 0) stake)) && (!eqB (v_side field_ (gI three 2) (gI three 0) stake) (0 : Int))))
@[irreducible] def ok_are_about (field_ : (List (Int × Int))) (three : (List Int)) (stake : Int) : Prop := (three.length = 3) ∧ (ok_side field_ (gI three 0) (gI three 1) stake) ∧ (ok_side field_ (gI three 1) (gI three 2) stake) ∧ ((eqB (v_side field_ (gI three 0) (gI three 1) stake) (v_side field_ (gI three 1) (gI three 2) stake)) = true → (ok_side field_ (gI three 2) (gI three 0) stake))
@[irreducible] def v_less (lot : (List Int)) (stake : Int) : (List Int) := (lot.filter fun x1 => (!eqB x1 stake))
@[irreducible] def ok_less (lot : (List Int)) (stake : Int) : Prop := lot.length ≤ LIM
@[irreducible] def v_behind_by_b3 (field_ : (List (Int × Int))) (row : (List Int)) (s4 : (List Int)) (x6 : Int) : Lp (Option (List Int)) ((List Int)) := (if ((!(v_is_whole x6)) || ((!memB x6 s4) || (!(v_is_corner field_ s4 x6)))) = true then (Lp.rt (none : (Option (List Int)))) else (Lp.nx (v_less s4 x6)))
@[irreducible] def ok_behind_by_b3 (field_ : (List (Int × Int))) (row : (List Int)) (s4 : (List Int)) (x6 : Int) : Prop := (ok_is_whole x6) ∧ ((!(v_is_whole x6)) = false → ((!memB x6 s4) = false → (ok_is_corner field_ s4 x6))) ∧ (((!(v_is_whole x6)) || ((!memB x6 s4) || (!(v_is_corner field_ s4 x6)))) = false → (ok_less s4 x6))
@[irreducible] def v_behind_by (field_ : (List (Int × Int))) (lot : (List Int)) (row : (List Int)) : (Option (List Int)) := (if (!true) = true then (none : (Option (List Int))) else ((forV (v_behind_by_b3 field_ row) row lot).fin (fun s11 => (some s11)) (fun r => r)))
@[irreducible] def ok_behind_by (field_ : (List (Int × Int))) (lot : (List Int)) (row : (List Int)) : Prop := (!true) = false → (forOk (v_behind_by_b3 field_ row) (ok_behind_by_b3 field_ row) row lot)
@[irreducible] def v_is_row (field_ : (List (Int × Int))) (lot : (List Int)) (thing : (List Int)) : Bool := (v_behind_by field_ lot thing).isSome
@[irreducible] def ok_is_row (field_ : (List (Int × Int))) (lot : (List Int)) (thing : (List Int)) : Prop := (ok_need_lot field_ lot) ∧ (ok_behind_by field_ lot thing)
@[irreducible] def v_need_row (field_ : (List (Int × Int))) (lot : (List Int)) (thing : (List Int)) : Unit := ()
@[irreducible] def ok_need_row (field_ : (List (Int × Int))) (lot : (List Int)) (thing : (List Int)) : Prop := (ok_is_row field_ lot thing) ∧ ((!(v_is_row field_ lot thing)) = false)
@[irreducible] def v_behind (field_ : (List (Int × Int))) (lot : (List Int)) (row : (List Int)) : (List Int) := ((v_behind_by field_ lot row).getD default)
@[irreducible] def ok_behind (field_ : (List (Int × Int))) (lot : (List Int)) (row : (List Int)) : Prop := (ok_need_row field_ lot row) ∧ (ok_behind_by field_ lot row) ∧ ((v_behind_by field_ lot row).isSome = true)
@[irreducible] def v_is_rest (field_ : (List (Int × Int))) (lot : (List Int)) (thing : (List Int)) : Bool := ((v_are_numbers thing (field_.length : Int)) && (thing.all fun x2 => (memB x2 lot)))
@[irreducible] def ok_is_rest (field_ : (List (Int × Int))) (lot : (List Int)) (thing : (List Int)) : Prop := (ok_are_numbers thing (field_.length : Int)) ∧ ((v_are_numbers thing (field_.length : Int)) = true → (thing.length ≤ LIM))
@[irreducible] def v_need_rest (field_ : (List (Int × Int))) (lot : (List Int)) (thing : (List Int)) : Unit := ()
@[irreducible] def ok_need_rest (field_ : (List (Int × Int))) (lot : (List Int)) (thing : (List Int)) : Prop := (ok_need_lot field_ lot) ∧ (ok_is_rest field_ lot thing) ∧ ((!(v_is_rest field_ lot thing)) = false)
@[irreducible] def v_barringA (field_ : (List (Int × Int))) (lot : (List Int)) (rest : (List Int)) : (List Int) := (lot.filter fun x1 => ((memB x1 (v_within_by field_ rest)) && (!memB x1 rest)))
@[irreducible] def ok_barringA (field_ : (List (Int × Int))) (lot : (List Int)) (rest : (List Int)) : Prop := (ok_within_by field_ rest) ∧ (lot.length ≤ LIM)
def v_least_row_row_6 (field_ : (List (Int × Int))) (rest : (List Int)) (s2 : (List Int) × (List Int)) : (List Int) := (s2.2 ++ [(gI ((v_corners field_ s2.1).filter fun x4 => (!memB x4 rest)) (0 : Int))])
@[irreducible] def v_least_row_b1 (field_ : (List (Int × Int))) (rest : (List Int)) (s2 : (List Int) × (List Int)) : Lp Unit ((List Int) × (List Int)) := (Lp.nx ((v_less s2.1 (gI (v_least_row_row_6 field_ rest s2) (-(1 : Int)))), (v_least_row_row_6 field_ rest s2)))
@[irreducible] def ok_least_row_b1 (field_ : (List (Int × Int))) (rest : (List Int)) (s2 : (List Int) × (List Int)) : Prop := (ok_corners field_ s2.1) ∧ ((v_corners field_ s2.1).length ≤ LIM) ∧ (okIx ((v_corners field_ s2.1).filter fun x4 => (!memB x4 rest)) (0 : Int)) ∧ (s2.2.length + [(gI ((v_corners field_ s2.1).filter fun x4 => (!memB x4 rest)) (0 : Int))].length ≤ LIM) ∧ (okIx (v_least_row_row_6 field_ rest s2) (-(1 : Int))) ∧ (ok_less s2.1 (gI (v_least_row_row_6 field_ rest s2) (-(1 : Int))))
def v_least_row_b1c (field_ : (List (Int × Int))) (rest : (List Int)) (s2 : (List Int) × (List Int)) : Bool := (!eqB s2.1 rest)
def ok_least_row_b1c (field_ : (List (Int × Int))) (rest : (List Int)) (s2 : (List Int) × (List Int)) : Prop := True
@[irreducible] def v_least_row (field_ : (List (Int × Int))) (lot : (List Int)) (rest : (List Int)) : (List Int) := ((whlV (v_least_row_b1c field_ rest) (v_least_row_b1 field_ rest) WHL (lot, ([] : (List Int)))).fin (fun s8 => s8.2) (fun _ => default))
@[irreducible] def ok_least_row (field_ : (List (Int × Int))) (lot : (List Int)) (rest : (List Int)) : Prop := whlOk (v_least_row_b1c field_ rest) (v_least_row_b1 field_ rest) (ok_least_row_b1c field_ rest) (ok_least_row_b1 field_ rest) WHL (lot, ([] : (List Int)))
@[irreducible] def v_leavesA (field_ : (List (Int × Int))) (lot : (List Int)) (rest : (List Int)) : D := (if (eqB (v_barringA field_ lot rest) ([] : (List Int))) = true then (D.tup [(D.str (Str.ofString "row")), ((eT D.int) (v_least_row field_ lot rest))]) else (D.tup [(D.str (Str.ofString "within")), (D.int (gI (v_barringA field_ lot rest) (0 : Int)))]))
@[irreducible] def ok_leavesA (field_ : (List (Int × Int))) (lot : (List Int)) (rest : (List Int)) : Prop := (ok_need_rest field_ lot rest) ∧ (ok_barringA field_ lot rest) ∧ ((eqB (v_barringA field_ lot rest) ([] : (List Int))) = true → (ok_least_row field_ lot rest)) ∧ ((eqB (v_barringA field_ lot rest) ([] : (List Int))) = false → (okIx (v_barringA field_ lot rest) (0 : Int))) ∧ (cln DEP (if (eqB (v_barringA field_ lot rest) ([] : (List Int))) = true then (D.tup [(D.str (Str.ofString "row")), ((eT D.int) (v_least_row field_ lot rest))]) else (D.tup [(D.str (Str.ofString "within")), (D.int (gI (v_barringA field_ lot rest) (0 : Int)))])) = true)
@[irreducible] def v_filledA (field_ : (List (Int × Int))) (lot : (List Int)) (rest : (List Int)) : (List Int) := (lot.filter fun x1 => ((memB x1 rest) || (memB x1 (v_within_by field_ rest))))
@[irreducible] def ok_filledA (field_ : (List (Int × Int))) (lot : (List Int)) (rest : (List Int)) : Prop := (ok_need_rest field_ lot rest) ∧ (ok_within_by field_ rest) ∧ (lot.length ≤ LIM)
@[irreducible] def v_swapped (row : (List Int)) (at_ : Int) : (List Int) := (((cut row none (some at_)) ++ [(gI row (at_ + (1 : Int))), (gI row at_)]) ++ (cut row (some (at_ + (2 : Int))) none))
@[irreducible] def ok_swapped (row : (List Int)) (at_ : Int) : Prop := (okIx row (at_ + (1 : Int))) ∧ (okIx row at_) ∧ ((cut row none (some at_)).length + [(gI row (at_ + (1 : Int))), (gI row at_)].length ≤ LIM) ∧ (((cut row none (some at_)) ++ [(gI row (at_ + (1 : Int))), (gI row at_)]).length + (cut row (some (at_ + (2 : Int))) none).length ≤ LIM)
@[irreducible] def v_is_at (field_ : (List (Int × Int))) (lot : (List Int)) (row : (List Int)) (thing : Int) : Bool := ((v_is_among thing (0 : Int) ((row.length : Int) - (2 : Int))) && (v_behind_by field_ lot (v_swapped row thing)).isSome)
@[irreducible] def ok_is_at (field_ : (List (Int × Int))) (lot : (List Int)) (row : (List Int)) (thing : Int) : Prop := (ok_is_among thing (0 : Int) ((row.length : Int) - (2 : Int))) ∧ ((v_is_among thing (0 : Int) ((row.length : Int) - (2 : Int))) = true → ((ok_swapped row thing) ∧ (ok_behind_by field_ lot (v_swapped row thing))))
@[irreducible] def v_exchanged (field_ : (List (Int × Int))) (lot : (List Int)) (row : (List Int)) (at_ : Int) : (List Int) := (v_swapped row at_)
@[irreducible] def ok_exchanged (field_ : (List (Int × Int))) (lot : (List Int)) (row : (List Int)) (at_ : Int) : Prop := (ok_need_row field_ lot row) ∧ (ok_is_at field_ lot row at_) ∧ ((!(v_is_at field_ lot row at_)) = false) ∧ (ok_swapped row at_)
@[irreducible] def v_unlike (one : (List Int)) (other : (List Int)) : (List Int) := (sortI ((one.filter fun x1 => (!memB x1 other)) ++ (other.filter fun x3 => (!memB x3 one))))
@[irreducible] def ok_unlike (one : (List Int)) (other : (List Int)) : Prop := (one.length ≤ LIM) ∧ (other.length ≤ LIM) ∧ ((one.filter fun x1 => (!memB x1 other)).length + (other.filter fun x3 => (!memB x3 one)).length ≤ LIM) ∧ (((one.filter fun x1 => (!memB x1 other)) ++ (other.filter fun x3 => (!memB x3 one))).length < 64)
@[irreducible] def v_led_b2 (field_ : (List (Int × Int))) (lot : (List Int)) (numbers : (List Int)) (s3 : (List Int)) (x5 : Int) : Lp (Option (List Int)) ((List Int)) := (if (!(v_is_at field_ lot s3 x5)) = true then (Lp.rt (none : (Option (List Int)))) else (Lp.nx (v_swapped s3 x5)))
@[irreducible] def ok_led_b2 (field_ : (List (Int × Int))) (lot : (List Int)) (numbers : (List Int)) (s3 : (List Int)) (x5 : Int) : Prop := (ok_is_at field_ lot s3 x5) ∧ ((!(v_is_at field_ lot s3 x5)) = false → (ok_swapped s3 x5))
@[irreducible] def v_led (field_ : (List (Int × Int))) (lot : (List Int)) (row : (List Int)) (numbers : (List Int)) : (Option (List Int)) := ((forV (v_led_b2 field_ lot numbers) numbers row).fin (fun s8 => (some s8)) (fun r => r))
@[irreducible] def ok_led (field_ : (List (Int × Int))) (lot : (List Int)) (row : (List Int)) (numbers : (List Int)) : Prop := forOk (v_led_b2 field_ lot numbers) (ok_led_b2 field_ lot numbers) numbers row
@[irreducible] def v_farther (field_ : (List (Int × Int))) (lot : (List Int)) (stake : Int) (direction : (Int × Int)) : Int := ((lot.filter fun x1 => (decide ((v_far (gI field_ stake) direction) < (v_far (gI field_ x1) direction)))).length : Int)
@[irreducible] def ok_farther (field_ : (List (Int × Int))) (lot : (List Int)) (stake : Int) (direction : (Int × Int)) : Prop := (okIx field_ stake) ∧ (ok_far (gI field_ stake) direction) ∧ (∀ x1 ∈ lot, ((okIx field_ x1) ∧ (ok_far (gI field_ x1) direction))) ∧ (lot.length ≤ LIM)
@[irreducible] def v_parts_of_b2 (lot : (List Int)) (s3 : (List (List Int))) (x5 : Int) : (List (List Int)) := (s3 ++ (s3.map fun x6 => (x6 ++ [x5])))
@[irreducible] def ok_parts_of_b2 (lot : (List Int)) (s3 : (List (List Int))) (x5 : Int) : Prop := (∀ x6 ∈ s3, (x6.length + [x5].length ≤ LIM)) ∧ (s3.length ≤ LIM) ∧ (s3.length + (s3.map fun x6 => (x6 ++ [x5])).length ≤ LIM)
def v_parts_of_l9 (lot : (List Int)) : (List (List Int)) := (List.foldl (v_parts_of_b2 lot) [([] : (List Int))] lot)
@[irreducible] def v_parts_of (lot : (List Int)) : (List (List Int)) := (cut (v_parts_of_l9 lot) (some (1 : Int)) none)
@[irreducible] def ok_parts_of (lot : (List Int)) : Prop := fldOk (v_parts_of_b2 lot) (ok_parts_of_b2 lot) lot [([] : (List Int))]
@[irreducible] def v_is_about_noneA (field_ : (List (Int × Int))) (lot : (List Int)) (part : (List Int)) : Bool := (if (!eqB (v_corners field_ part) part) = true then false else (lot.all fun x2 => (!memB x2 (v_within_by field_ part))))
@[irreducible] def ok_is_about_noneA (field_ : (List (Int × Int))) (lot : (List Int)) (part : (List Int)) : Prop := (ok_corners field_ part) ∧ ((!eqB (v_corners field_ part) part) = false → ((ok_within_by field_ part) ∧ (lot.length ≤ LIM)))
@[irreducible] def v_sides_by (field_ : (List (Int × Int))) (lot : (List Int)) (one : Int) (other : Int) : (Int × Int) := ((cntV (lot.map fun x1 => (v_side field_ one other x1)) (1 : Int)), (cntV (lot.map fun x1 => (v_side field_ one other x1)) (-(1 : Int))))
@[irreducible] def ok_sides_by (field_ : (List (Int × Int))) (lot : (List Int)) (one : Int) (other : Int) : Prop := (∀ x1 ∈ lot, (ok_side field_ one other x1)) ∧ (lot.length ≤ LIM)
@[irreducible] def v_sides (field_ : (List (Int × Int))) (lot : (List Int)) (one : Int) (other : Int) : (Int × Int) := (v_sides_by field_ lot one other)
@[irreducible] def ok_sides (field_ : (List (Int × Int))) (lot : (List Int)) (one : Int) (other : Int) : Prop := (ok_need_lot field_ lot) ∧ (ok_need_stake lot one) ∧ (ok_less lot one) ∧ (ok_need_stake (v_less lot one) other) ∧ (ok_sides_by field_ lot one other)
def v_how_many_sides_found_5 (field_ : (List (Int × Int))) (lot : (List Int)) : (List Int) := (lot.flatMap fun x1 => ((v_less lot x1).flatMap fun x3 => [(v_sides_by field_ lot x1 x3).1]))
@[irreducible] def v_how_many_sides (field_ : (List (Int × Int))) (lot : (List Int)) : (List Int) := ((rgI 0 ((lot.length : Int) - (1 : Int))).map fun x6 => (cntV (v_how_many_sides_found_5 field_ lot) x6))
@[irreducible] def ok_how_many_sides (field_ : (List (Int × Int))) (lot : (List Int)) : Prop := (ok_need_lot field_ lot) ∧ (∀ x1 ∈ lot, ((ok_less lot x1) ∧ (∀ x3 ∈ (v_less lot x1), (ok_sides_by field_ lot x1 x3)))) ∧ ((lot.flatMap fun x1 => ((v_less lot x1).flatMap fun x3 => [(v_sides_by field_ lot x1 x3).1])).length ≤ LIM) ∧ (-1000000 ≤ ((lot.length : Int) - (1 : Int)) ∧ ((lot.length : Int) - (1 : Int)) ≤ 1000000) ∧ ((rgI 0 ((lot.length : Int) - (1 : Int))).length ≤ LIM)
@[irreducible] def v_are_crossing (field_ : (List (Int × Int))) (first : (Int × Int)) (second : (Int × Int)) : Bool := ((!eqB (v_side field_ first.1 first.2 second.1) (v_side field_ first.1 first.2 second.2)) && (!eqB (v_side field_ second.1 second.2 first.1) (v_side field_ second.1 second.2 first.2)))
@[irreducible] def ok_are_crossing (field_ : (List (Int × Int))) (first : (Int × Int)) (second : (Int × Int)) : Prop := (ok_side field_ first.1 first.2 second.1) ∧ (ok_side field_ first.1 first.2 second.2) ∧ ((!eqB (v_side field_ first.1 first.2 second.1) (v_side field_ first.1 first.2 second.2)) = true → ((ok_side field_ second.1 second.2 first.1) ∧ (ok_side field_ second.1 second.2 first.2)))
def v_all_fours_found_9 (s3 : (List (List Int))) (x5 : Int) : (List (List Int)) := (s3 ++ ((s3.filter fun x6 => (decide ((x6.length : Int) < (4 : Int)))).map fun x6 => (x6 ++ [x5])))
@[irreducible] def v_all_fours_b2 (lot : (List Int)) (s3 : (List (List Int))) (x5 : Int) : (List (List Int)) := (v_all_fours_found_9 s3 x5)
@[irreducible] def ok_all_fours_b2 (lot : (List Int)) (s3 : (List (List Int))) (x5 : Int) : Prop := (∀ x6 ∈ s3, ((decide ((x6.length : Int) < (4 : Int))) = true → (x6.length + [x5].length ≤ LIM))) ∧ (s3.length ≤ LIM) ∧ (s3.length + ((s3.filter fun x6 => (decide ((x6.length : Int) < (4 : Int)))).map fun x6 => (x6 ++ [x5])).length ≤ LIM)
def v_all_fours_l11 (lot : (List Int)) : (List (List Int)) := (List.foldl (v_all_fours_b2 lot) [([] : (List Int))] lot)
@[irreducible] def v_all_fours (lot : (List Int)) : (List (List Int)) := ((v_all_fours_l11 lot).filter fun x12 => (eqB (x12.length : Int) (4 : Int)))
@[irreducible] def ok_all_fours (lot : (List Int)) : Prop := (fldOk (v_all_fours_b2 lot) (ok_all_fours_b2 lot) lot [([] : (List Int))]) ∧ ((v_all_fours_l11 lot).length ≤ LIM)
@[irreducible] def v_put_at (field_ : (List (Int × Int))) (stake : Int) (place : (Int × Int)) : (List (Int × Int)) := (((cut field_ none (some stake)) ++ [place]) ++ (cut field_ (some (stake + (1 : Int))) none))
@[irreducible] def ok_put_at (field_ : (List (Int × Int))) (stake : Int) (place : (Int × Int)) : Prop := ((cut field_ none (some stake)).length + [place].length ≤ LIM) ∧ (((cut field_ none (some stake)) ++ [place]).length + (cut field_ (some (stake + (1 : Int))) none).length ≤ LIM)
@[irreducible] def v_need_move (field_ : (List (Int × Int))) (stake : Int) (place : (Int × Int)) : Unit := ()
@[irreducible] def ok_need_move (field_ : (List (Int × Int))) (stake : Int) (place : (Int × Int)) : Prop := (ok_need_field field_) ∧ (-1000000 ≤ (field_.length : Int) ∧ (field_.length : Int) ≤ 1000000) ∧ (ok_need_stakeA (rgI 0 (field_.length : Int)) stake) ∧ (ok_is_place place) ∧ ((!(v_is_place place)) = false → ((ok_put_at field_ stake place) ∧ (ok_is_field (v_put_at field_ stake place)))) ∧ (((!(v_is_place place)) || (!(v_is_field (v_put_at field_ stake place)))) = false)
@[irreducible] def v_moved (field_ : (List (Int × Int))) (stake : Int) (place : (Int × Int)) : (List (Int × Int)) := (v_put_at field_ stake place)
@[irreducible] def ok_moved (field_ : (List (Int × Int))) (stake : Int) (place : (Int × Int)) : Prop := (ok_need_move field_ stake place) ∧ (ok_put_at field_ stake place)
@[irreducible] def v_common_b1 (s2 : Int × Int) : Lp Unit (Int × Int) := (Lp.nx (s2.2, (s2.1 % s2.2)))
@[irreducible] def ok_common_b1 (s2 : Int × Int) : Prop := 0 < s2.2
def v_common_b1c (s2 : Int × Int) : Bool := (decide ((0 : Int) < s2.2))
def ok_common_b1c (s2 : Int × Int) : Prop := True
@[irreducible] def v_common (one : Int) (other : Int) : Int := ((whlV (v_common_b1c) (v_common_b1) WHL (one, other)).fin (fun s5 => s5.1) (fun _ => default))
@[irreducible] def ok_common (one : Int) (other : Int) : Prop := whlOk (v_common_b1c) (v_common_b1) (ok_common_b1c) (ok_common_b1) WHL (one, other)
end Rs
end

section
set_option Elab.async false
set_option linter.all false
set_option maxRecDepth 100000
set_option maxHeartbeats 1000000
set_option autoImplicit false
namespace Rs
open PySem
@[irreducible] def v_law_cell_at (script : (List Int)) (k_ : Int) : Int := (if (decide (k_ < (script.length : Int))) = true then (gI script k_) else (0 : Int))
@[irreducible] def ok_law_cell_at (script : (List Int)) (k_ : Int) : Prop := (decide (k_ < (script.length : Int))) = true → (okIx script k_)
@[irreducible] def v_law_same (found : D) (due : D) : Bool := (eqB (txt found) (txt due))
@[irreducible] def ok_law_same (found : D) (due : D) : Prop := (rpOk found) ∧ (rpOk due)
@[irreducible] def v_law_bend (one : (Int × Int)) (other : (Int × Int)) (third : (Int × Int)) : Int := (((other.1 - one.1) * (third.2 - one.2)) - ((other.2 - one.2) * (third.1 - one.1)))
@[irreducible] def ok_law_bend (one : (Int × Int)) (other : (Int × Int)) (third : (Int × Int)) : Prop := (mulOk (other.1 - one.1) (third.2 - one.2) = true) ∧ (mulOk (other.2 - one.2) (third.1 - one.1) = true)
@[irreducible] def v_law_is_free_b4 (places : (List (Int × Int))) (place : (Int × Int)) (s5 : Unit) (x7 : (Int × (Int × Int))) : Lp Bool (Unit) := (if (!eqB (((cut places (some (x7.1 + (1 : Int))) none).filter fun x8 => (eqB (v_law_bend x7.2 x8 place) (0 : Int))).map fun x8 => (1 : Int)) ([] : (List Int))) = true then (Lp.rt false) else (Lp.nx ()))
@[irreducible] def ok_law_is_free_b4 (places : (List (Int × Int))) (place : (Int × Int)) (s5 : Unit) (x7 : (Int × (Int × Int))) : Prop := (∀ x8 ∈ (cut places (some (x7.1 + (1 : Int))) none), (ok_law_bend x7.2 x8 place)) ∧ ((cut places (some (x7.1 + (1 : Int))) none).length ≤ LIM)
@[irreducible] def v_law_is_free (places : (List (Int × Int))) (place : (Int × Int)) : Bool := (if (memB place places) = true then false else ((forV (v_law_is_free_b4 places place) (enV 0 places) ()).fin (fun s13 => true) (fun r => r)))
@[irreducible] def ok_law_is_free (places : (List (Int × Int))) (place : (Int × Int)) : Prop := (memB place places) = false → (forOk (v_law_is_free_b4 places place) (ok_law_is_free_b4 places place) (enV 0 places) ())
def v_law_field_t1 (q : Pen) : Int × Pen := (v_law_draw q (4 : Int))
def v_law_field_t2 (q : Pen) (most : Int) : Int × Pen := (v_law_draw (v_law_field_t1 q).2 most)
def v_law_field_wide_3 (q : Pen) : Int := (gI [(3 : Int), (6 : Int), (12 : Int), (40 : Int)] (v_law_field_t1 q).1)
def v_law_field_t4 (q : Pen) (most : Int) : Int × Pen := (v_law_draw (v_law_field_t2 q most).2 (2 : Int))
def v_law_field_many_5 (q : Pen) (most : Int) : Int := (gI [((1 : Int) + (v_law_field_t2 q most).1), most] (v_law_field_t4 q most).1)
def v_law_field_t12 (q : Pen) (s9 : (List (Int × Int)) × Pen) : Int × Pen := (v_law_draw s9.2 ((v_law_field_wide_3 q) + (1 : Int)))
def v_law_field_t13 (q : Pen) (s9 : (List (Int × Int)) × Pen) : Int × Pen := (v_law_draw (v_law_field_t12 q s9).2 ((v_law_field_wide_3 q) + (1 : Int)))
def v_law_field_t14 (q : Pen) (s9 : (List (Int × Int)) × Pen) : Int × Pen := (v_law_draw (v_law_field_t13 q s9).2 (5 : Int))
def v_law_field_t17 (q : Pen) (s9 : (List (Int × Int)) × Pen) : Int × Pen := (v_law_draw (v_law_field_t14 q s9).2 (2 : Int))
def v_law_field_place_18 (q : Pen) (s9 : (List (Int × Int)) × Pen) : (Int × Int) := (((v_law_field_t12 q s9).1, (v_law_field_t13 q s9).1).1, (gI [(0 : Int), (v_law_field_wide_3 q)] (v_law_field_t17 q s9).1))
def v_law_field_j19 (q : Pen) (s9 : (List (Int × Int)) × Pen) : (Int × Int) × Pen := (if (eqB (v_law_field_t14 q s9).1 (0 : Int)) = true then ((v_law_field_place_18 q s9), (v_law_field_t17 q s9).2) else (((v_law_field_t12 q s9).1, (v_law_field_t13 q s9).1), (v_law_field_t14 q s9).2))
@[irreducible] def v_law_field_b8 (q : Pen) (most : Int) (s9 : (List (Int × Int)) × Pen) (x11 : Int) : (List (Int × Int)) × Pen := (if ((decide ((s9.1.length : Int) < (v_law_field_many_5 q most))) && (v_law_is_free s9.1 (v_law_field_j19 q s9).1)) = true then ((s9.1 ++ [(v_law_field_j19 q s9).1]), (v_law_field_j19 q s9).2) else (s9.1, (v_law_field_j19 q s9).2))
@[irreducible] def ok_law_field_b8 (q : Pen) (most : Int) (s9 : (List (Int × Int)) × Pen) (x11 : Int) : Prop := (ok_law_draw s9.2 ((v_law_field_wide_3 q) + (1 : Int))) ∧ (ok_law_draw (v_law_field_t12 q s9).2 ((v_law_field_wide_3 q) + (1 : Int))) ∧ (ok_law_draw (v_law_field_t13 q s9).2 (5 : Int)) ∧ ((eqB (v_law_field_t14 q s9).1 (0 : Int)) = true → ((ok_law_draw (v_law_field_t14 q s9).2 (2 : Int)) ∧ (okIx [(0 : Int), (v_law_field_wide_3 q)] (v_law_field_t17 q s9).1))) ∧ ((decide ((s9.1.length : Int) < (v_law_field_many_5 q most))) = true → (ok_law_is_free s9.1 (v_law_field_j19 q s9).1)) ∧ (((decide ((s9.1.length : Int) < (v_law_field_many_5 q most))) && (v_law_is_free s9.1 (v_law_field_j19 q s9).1)) = true → (s9.1.length + [(v_law_field_j19 q s9).1].length ≤ LIM))
def v_law_field_l23 (q : Pen) (most : Int) : (List (Int × Int)) × Pen := (List.foldl (v_law_field_b8 q most) (([] : (List (Int × Int))), (v_law_field_t4 q most).2) (rgI 0 ((3 : Int) * most)))
@[irreducible] def v_law_field (q : Pen) (most : Int) : ((List (Int × Int)) × Pen) := ((v_law_field_l23 q most).1, (v_law_field_l23 q most).2)
@[irreducible] def ok_law_field (q : Pen) (most : Int) : Prop := (ok_law_draw q (4 : Int)) ∧ (okIx [(3 : Int), (6 : Int), (12 : Int), (40 : Int)] (v_law_field_t1 q).1) ∧ (ok_law_draw (v_law_field_t1 q).2 most) ∧ (ok_law_draw (v_law_field_t2 q most).2 (2 : Int)) ∧ (okIx [((1 : Int) + (v_law_field_t2 q most).1), most] (v_law_field_t4 q most).1) ∧ (mulOk (3 : Int) most = true) ∧ (-1000000 ≤ ((3 : Int) * most) ∧ ((3 : Int) * most) ≤ 1000000) ∧ (fldOk (v_law_field_b8 q most) (ok_law_field_b8 q most) (rgI 0 ((3 : Int) * most)) (([] : (List (Int × Int))), (v_law_field_t4 q most).2))
def v_law_lot_t5 (q3 : Pen) : Int × Pen := (v_law_draw q3 (4 : Int))
def v_law_lot_c7 (x1 : Int) (q3 : Pen) : List Int × Pen := ((if (decide ((0 : Int) < (v_law_lot_t5 q3).1)) = true then [x1] else []), (v_law_lot_t5 q3).2)
def ok_law_lot_c7 (x1 : Int) (q3 : Pen) : Prop := ok_law_draw q3 (4 : Int)
def v_law_lot_t8 (q : Pen) (field_here : (List (Int × Int))) : Int × Pen := (v_law_draw (lcV (v_law_lot_c7) (rgI 0 (field_here.length : Int)) q).2 (3 : Int))
@[irreducible] def v_law_lot (q : Pen) (field_here : (List (Int × Int))) : ((List Int) × Pen) := ((gI [(rgI 0 (field_here.length : Int)), (rgI 0 (field_here.length : Int)), (lcV (v_law_lot_c7) (rgI 0 (field_here.length : Int)) q).1] (v_law_lot_t8 q field_here).1), (v_law_lot_t8 q field_here).2)
@[irreducible] def ok_law_lot (q : Pen) (field_here : (List (Int × Int))) : Prop := (-1000000 ≤ (field_here.length : Int) ∧ (field_here.length : Int) ≤ 1000000) ∧ (lcOk (v_law_lot_c7) (ok_law_lot_c7) (rgI 0 (field_here.length : Int)) q) ∧ ((lcV (v_law_lot_c7) (rgI 0 (field_here.length : Int)) q).1.length ≤ LIM) ∧ (ok_law_draw (lcV (v_law_lot_c7) (rgI 0 (field_here.length : Int)) q).2 (3 : Int)) ∧ (okIx [(rgI 0 (field_here.length : Int)), (rgI 0 (field_here.length : Int)), (lcV (v_law_lot_c7) (rgI 0 (field_here.length : Int)) q).1] (v_law_lot_t8 q field_here).1)
def v_law_mixed_t6 (s3 : (List Int) × (List Int) × Pen) : Int × Pen := (v_law_draw s3.2.2 (s3.1.length : Int))
@[irreducible] def v_law_mixed_b2 (q : Pen) (some_ : (List Int)) (s3 : (List Int) × (List Int) × Pen) (x5 : Int) : (List Int) × (List Int) × Pen := ((popI s3.1 (v_law_mixed_t6 s3).1), (s3.2.1 ++ [(gI s3.1 (v_law_mixed_t6 s3).1)]), (v_law_mixed_t6 s3).2)
@[irreducible] def ok_law_mixed_b2 (q : Pen) (some_ : (List Int)) (s3 : (List Int) × (List Int) × Pen) (x5 : Int) : Prop := (ok_law_draw s3.2.2 (s3.1.length : Int)) ∧ (okIx s3.1 (v_law_mixed_t6 s3).1) ∧ (s3.1.length ≤ LIM) ∧ (s3.2.1.length < LIM)
def v_law_mixed_l8 (q : Pen) (some_ : (List Int)) : (List Int) × (List Int) × Pen := (List.foldl (v_law_mixed_b2 q some_) (some_, ([] : (List Int)), q) (rgI 0 (some_.length : Int)))
@[irreducible] def v_law_mixed (q : Pen) (some_ : (List Int)) : ((List Int) × Pen) := ((v_law_mixed_l8 q some_).2.1, (v_law_mixed_l8 q some_).2.2)
@[irreducible] def ok_law_mixed (q : Pen) (some_ : (List Int)) : Prop := (-1000000 ≤ (some_.length : Int) ∧ (some_.length : Int) ≤ 1000000) ∧ (fldOk (v_law_mixed_b2 q some_) (ok_law_mixed_b2 q some_) (rgI 0 (some_.length : Int)) (some_, ([] : (List Int)), q))
@[irreducible] def v_law_side (field_here : (List (Int × Int))) (a : Int) (b : Int) (c : Int) : Int := ((if (decide ((0 : Int) < (v_law_bend (gI field_here a) (gI field_here b) (gI field_here c)))) = true then (1 : Int) else 0) - (if (decide ((v_law_bend (gI field_here a) (gI field_here b) (gI field_here c)) < (0 : Int))) = true then (1 : Int) else 0))
@[irreducible] def ok_law_side (field_here : (List (Int × Int))) (a : Int) (b : Int) (c : Int) : Prop := (okIx field_here a) ∧ (okIx field_here b) ∧ (okIx field_here c) ∧ (ok_law_bend (gI field_here a) (gI field_here b) (gI field_here c))
def v_law_threes_found_9 (s3 : (List (List Int))) (x5 : Int) : (List (List Int)) := (s3 ++ ((s3.filter fun x6 => (decide ((x6.length : Int) < (3 : Int)))).map fun x6 => (x6 ++ [x5])))
@[irreducible] def v_law_threes_b2 (some_ : (List Int)) (s3 : (List (List Int))) (x5 : Int) : (List (List Int)) := (v_law_threes_found_9 s3 x5)
@[irreducible] def ok_law_threes_b2 (some_ : (List Int)) (s3 : (List (List Int))) (x5 : Int) : Prop := (∀ x6 ∈ s3, ((decide ((x6.length : Int) < (3 : Int))) = true → (x6.length + [x5].length ≤ LIM))) ∧ (s3.length ≤ LIM) ∧ (s3.length + ((s3.filter fun x6 => (decide ((x6.length : Int) < (3 : Int)))).map fun x6 => (x6 ++ [x5])).length ≤ LIM)
def v_law_threes_l11 (some_ : (List Int)) : (List (List Int)) := (List.foldl (v_law_threes_b2 some_) [([] : (List Int))] some_)
@[irreducible] def v_law_threes (some_ : (List Int)) : (List (List Int)) := (sortT ((v_law_threes_l11 some_).filter fun x12 => (eqB (x12.length : Int) (3 : Int))))
@[irreducible] def ok_law_threes (some_ : (List Int)) : Prop := (fldOk (v_law_threes_b2 some_) (ok_law_threes_b2 some_) some_ [([] : (List Int))]) ∧ ((v_law_threes_l11 some_).length ≤ LIM) ∧ (sOk ((v_law_threes_l11 some_).filter fun x12 => (eqB (x12.length : Int) (3 : Int))))
def v_law_threesA_found_9 (s3 : (List (List Int))) (x5 : Int) : (List (List Int)) := (s3 ++ ((s3.filter fun x6 => (decide ((x6.length : Int) < (3 : Int)))).map fun x6 => (x6 ++ [x5])))
@[irreducible] def v_law_threesA_b2 (some_ : (List Int)) (s3 : (List (List Int))) (x5 : Int) : (List (List Int)) := (v_law_threesA_found_9 s3 x5)
@[irreducible] def ok_law_threesA_b2 (some_ : (List Int)) (s3 : (List (List Int))) (x5 : Int) : Prop := (∀ x6 ∈ s3, ((decide ((x6.length : Int) < (3 : Int))) = true → (x6.length + [x5].length ≤ LIM))) ∧ (s3.length ≤ LIM) ∧ (s3.length + ((s3.filter fun x6 => (decide ((x6.length : Int) < (3 : Int)))).map fun x6 => (x6 ++ [x5])).length ≤ LIM)
def v_law_threesA_l11 (some_ : (List Int)) : (List (List Int)) := (List.foldl (v_law_threesA_b2 some_) [([] : (List Int))] some_)
@[irreducible] def v_law_threesA (some_ : (List Int)) : (List (List Int)) := (sortT ((v_law_threesA_l11 some_).filter fun x12 => (eqB (x12.length : Int) (3 : Int))))
@[irreducible] def ok_law_threesA (some_ : (List Int)) : Prop := (fldOk (v_law_threesA_b2 some_) (ok_law_threesA_b2 some_) some_ [([] : (List Int))]) ∧ ((v_law_threesA_l11 some_).length ≤ LIM) ∧ (sOk ((v_law_threesA_l11 some_).filter fun x12 => (eqB (x12.length : Int) (3 : Int))))
def v_law_are_about_turns_2 (field_here : (List (Int × Int))) (three : (List Int)) (stake : Int) : (List Int) := [(v_law_side field_here (gI three 0) (gI three 1) stake), (v_law_side field_here (gI three 1) (gI three 2) stake), (v_law_side field_here (gI three 2) (gI three 0) stake)]
@[irreducible] def v_law_are_about (field_here : (List (Int × Int))) (three : (List Int)) (stake : Int) : Bool := (if (memB stake three) = true then false else (memB (v_law_are_about_turns_2 field_here three stake) [[(1 : Int), (1 : Int), (1 : Int)], [(-(1 : Int)), (-(1 : Int)), (-(1 : Int))]]))
@[irreducible] def ok_law_are_about (field_here : (List (Int × Int))) (three : (List Int)) (stake : Int) : Prop := (memB stake three) = false → ((three.length = 3) ∧ (ok_law_side field_here (gI three 0) (gI three 1) stake) ∧ (ok_law_side field_here (gI three 1) (gI three 2) stake) ∧ (ok_law_side field_here (gI three 2) (gI three 0) stake))
@[irreducible] def v_law_is_held (field_here : (List (Int × Int))) (lot_here : (List Int)) (stake : Int) : Bool := (!eqB (((v_law_threes lot_here).filter fun x1 => (v_law_are_about field_here x1 stake)).map fun x1 => (1 : Int)) ([] : (List Int)))
@[irreducible] def ok_law_is_held (field_here : (List (Int × Int))) (lot_here : (List Int)) (stake : Int) : Prop := (ok_law_threes lot_here) ∧ (∀ x1 ∈ (v_law_threes lot_here), (ok_law_are_about field_here x1 stake)) ∧ ((v_law_threes lot_here).length ≤ LIM)
@[irreducible] def v_law_corners (field_here : (List (Int × Int))) (lot_here : (List Int)) : (List Int) := (lot_here.filter fun x1 => (!(v_law_is_held field_here lot_here x1)))
@[irreducible] def ok_law_corners (field_here : (List (Int × Int))) (lot_here : (List Int)) : Prop := (∀ x1 ∈ lot_here, (ok_law_is_held field_here lot_here x1)) ∧ (lot_here.length ≤ LIM)
@[irreducible] def v_law_far (place : (Int × Int)) (direction : (Int × Int)) : Int := ((place.1 * direction.1) + (place.2 * direction.2))
@[irreducible] def ok_law_far (place : (Int × Int)) (direction : (Int × Int)) : Prop := (mulOk place.1 direction.1 = true) ∧ (mulOk place.2 direction.2 = true)
@[irreducible] def v_law_bendA (p_ : (Int × Int)) (q_ : (Int × Int)) (r : (Int × Int)) : Int := (((q_.1 - p_.1) * (r.2 - p_.2)) - ((q_.2 - p_.2) * (r.1 - p_.1)))
@[irreducible] def ok_law_bendA (p_ : (Int × Int)) (q_ : (Int × Int)) (r : (Int × Int)) : Prop := (mulOk (q_.1 - p_.1) (r.2 - p_.2) = true) ∧ (mulOk (q_.2 - p_.2) (r.1 - p_.1) = true)
@[irreducible] def v_law_is_freeA_b4 (places : (List (Int × Int))) (place : (Int × Int)) (s5 : Unit) (x7 : (Int × (Int × Int))) : Lp Bool (Unit) := (if (!eqB (((cut places (some (x7.1 + (1 : Int))) none).filter fun x8 => (eqB (v_law_bendA x7.2 x8 place) (0 : Int))).map fun x8 => (1 : Int)) ([] : (List Int))) = true then (Lp.rt false) else (Lp.nx ()))
@[irreducible] def ok_law_is_freeA_b4 (places : (List (Int × Int))) (place : (Int × Int)) (s5 : Unit) (x7 : (Int × (Int × Int))) : Prop := (∀ x8 ∈ (cut places (some (x7.1 + (1 : Int))) none), (ok_law_bendA x7.2 x8 place)) ∧ ((cut places (some (x7.1 + (1 : Int))) none).length ≤ LIM)
@[irreducible] def v_law_is_freeA (places : (List (Int × Int))) (place : (Int × Int)) : Bool := (if (memB place places) = true then false else ((forV (v_law_is_freeA_b4 places place) (enV 0 places) ()).fin (fun s13 => true) (fun r => r)))
@[irreducible] def ok_law_is_freeA (places : (List (Int × Int))) (place : (Int × Int)) : Prop := (memB place places) = false → (forOk (v_law_is_freeA_b4 places place) (ok_law_is_freeA_b4 places place) (enV 0 places) ())
def v_law_fieldA_t1 (q : Pen) : Int × Pen := (v_law_draw q (4 : Int))
def v_law_fieldA_t2 (q : Pen) (most : Int) : Int × Pen := (v_law_draw (v_law_fieldA_t1 q).2 most)
def v_law_fieldA_wide_3 (q : Pen) : Int := (gI [(3 : Int), (6 : Int), (12 : Int), (40 : Int)] (v_law_fieldA_t1 q).1)
def v_law_fieldA_t4 (q : Pen) (most : Int) : Int × Pen := (v_law_draw (v_law_fieldA_t2 q most).2 (2 : Int))
def v_law_fieldA_many_5 (q : Pen) (most : Int) : Int := (gI [((1 : Int) + (v_law_fieldA_t2 q most).1), most] (v_law_fieldA_t4 q most).1)
def v_law_fieldA_t12 (q : Pen) (s9 : (List (Int × Int)) × Pen) : Int × Pen := (v_law_draw s9.2 ((v_law_fieldA_wide_3 q) + (1 : Int)))
def v_law_fieldA_t13 (q : Pen) (s9 : (List (Int × Int)) × Pen) : Int × Pen := (v_law_draw (v_law_fieldA_t12 q s9).2 ((v_law_fieldA_wide_3 q) + (1 : Int)))
def v_law_fieldA_t14 (q : Pen) (s9 : (List (Int × Int)) × Pen) : Int × Pen := (v_law_draw (v_law_fieldA_t13 q s9).2 (5 : Int))
def v_law_fieldA_t17 (q : Pen) (s9 : (List (Int × Int)) × Pen) : Int × Pen := (v_law_draw (v_law_fieldA_t14 q s9).2 (2 : Int))
def v_law_fieldA_place_18 (q : Pen) (s9 : (List (Int × Int)) × Pen) : (Int × Int) := (((v_law_fieldA_t12 q s9).1, (v_law_fieldA_t13 q s9).1).1, (gI [(0 : Int), (v_law_fieldA_wide_3 q)] (v_law_fieldA_t17 q s9).1))
def v_law_fieldA_j19 (q : Pen) (s9 : (List (Int × Int)) × Pen) : (Int × Int) × Pen := (if (eqB (v_law_fieldA_t14 q s9).1 (0 : Int)) = true then ((v_law_fieldA_place_18 q s9), (v_law_fieldA_t17 q s9).2) else (((v_law_fieldA_t12 q s9).1, (v_law_fieldA_t13 q s9).1), (v_law_fieldA_t14 q s9).2))
@[irreducible] def v_law_fieldA_b8 (q : Pen) (most : Int) (s9 : (List (Int × Int)) × Pen) (x11 : Int) : (List (Int × Int)) × Pen := (if ((decide ((s9.1.length : Int) < (v_law_fieldA_many_5 q most))) && (v_law_is_freeA s9.1 (v_law_fieldA_j19 q s9).1)) = true then ((s9.1 ++ [(v_law_fieldA_j19 q s9).1]), (v_law_fieldA_j19 q s9).2) else (s9.1, (v_law_fieldA_j19 q s9).2))
@[irreducible] def ok_law_fieldA_b8 (q : Pen) (most : Int) (s9 : (List (Int × Int)) × Pen) (x11 : Int) : Prop := (ok_law_draw s9.2 ((v_law_fieldA_wide_3 q) + (1 : Int))) ∧ (ok_law_draw (v_law_fieldA_t12 q s9).2 ((v_law_fieldA_wide_3 q) + (1 : Int))) ∧ (ok_law_draw (v_law_fieldA_t13 q s9).2 (5 : Int)) ∧ ((eqB (v_law_fieldA_t14 q s9).1 (0 : Int)) = true → ((ok_law_draw (v_law_fieldA_t14 q s9).2 (2 : Int)) ∧ (okIx [(0 : Int), (v_law_fieldA_wide_3 q)] (v_law_fieldA_t17 q s9).1))) ∧ ((decide ((s9.1.length : Int) < (v_law_fieldA_many_5 q most))) = true → (ok_law_is_freeA s9.1 (v_law_fieldA_j19 q s9).1)) ∧ (((decide ((s9.1.length : Int) < (v_law_fieldA_many_5 q most))) && (v_law_is_freeA s9.1 (v_law_fieldA_j19 q s9).1)) = true → (s9.1.length + [(v_law_fieldA_j19 q s9).1].length ≤ LIM))
def v_law_fieldA_l23 (q : Pen) (most : Int) : (List (Int × Int)) × Pen := (List.foldl (v_law_fieldA_b8 q most) (([] : (List (Int × Int))), (v_law_fieldA_t4 q most).2) (rgI 0 ((3 : Int) * most)))
@[irreducible] def v_law_fieldA (q : Pen) (most : Int) : ((List (Int × Int)) × Pen) := ((v_law_fieldA_l23 q most).1, (v_law_fieldA_l23 q most).2)
@[irreducible] def ok_law_fieldA (q : Pen) (most : Int) : Prop := (ok_law_draw q (4 : Int)) ∧ (okIx [(3 : Int), (6 : Int), (12 : Int), (40 : Int)] (v_law_fieldA_t1 q).1) ∧ (ok_law_draw (v_law_fieldA_t1 q).2 most) ∧ (ok_law_draw (v_law_fieldA_t2 q most).2 (2 : Int)) ∧ (okIx [((1 : Int) + (v_law_fieldA_t2 q most).1), most] (v_law_fieldA_t4 q most).1) ∧ (mulOk (3 : Int) most = true) ∧ (-1000000 ≤ ((3 : Int) * most) ∧ ((3 : Int) * most) ≤ 1000000) ∧ (fldOk (v_law_fieldA_b8 q most) (ok_law_fieldA_b8 q most) (rgI 0 ((3 : Int) * most)) (([] : (List (Int × Int))), (v_law_fieldA_t4 q most).2))
@[irreducible] def v_law_sideA (field_here : (List (Int × Int))) (a : Int) (b : Int) (c : Int) : Int := ((if (decide ((0 : Int) < (v_law_bendA (gI field_here a) (gI field_here b) (gI field_here c)))) = true then (1 : Int) else 0) - (if (decide ((v_law_bendA (gI field_here a) (gI field_here b) (gI field_here c)) < (0 : Int))) = true then (1 : Int) else 0))
@[irreducible] def ok_law_sideA (field_here : (List (Int × Int))) (a : Int) (b : Int) (c : Int) : Prop := (okIx field_here a) ∧ (okIx field_here b) ∧ (okIx field_here c) ∧ (ok_law_bendA (gI field_here a) (gI field_here b) (gI field_here c))
def v_law_are_aboutA_turns_2 (field_here : (List (Int × Int))) (three : (List Int)) (stake : Int) : (List Int) := [(v_law_sideA field_here (gI three 0) (gI three 1) stake), (v_law_sideA field_here (gI three 1) (gI three 2) stake), (v_law_sideA field_here (gI three 2) (gI three 0) stake)]
@[irreducible] def v_law_are_aboutA (field_here : (List (Int × Int))) (three : (List Int)) (stake : Int) : Bool := (if (memB stake three) = true then false else (memB (v_law_are_aboutA_turns_2 field_here three stake) [[(1 : Int), (1 : Int), (1 : Int)], [(-(1 : Int)), (-(1 : Int)), (-(1 : Int))]]))
@[irreducible] def ok_law_are_aboutA (field_here : (List (Int × Int))) (three : (List Int)) (stake : Int) : Prop := (memB stake three) = false → ((three.length = 3) ∧ (ok_law_sideA field_here (gI three 0) (gI three 1) stake) ∧ (ok_law_sideA field_here (gI three 1) (gI three 2) stake) ∧ (ok_law_sideA field_here (gI three 2) (gI three 0) stake))
@[irreducible] def v_law_bendB (one : (Int × Int)) (other : (Int × Int)) (third : (Int × Int)) : Int := (((other.1 - one.1) * (third.2 - one.2)) - ((other.2 - one.2) * (third.1 - one.1)))
@[irreducible] def ok_law_bendB (one : (Int × Int)) (other : (Int × Int)) (third : (Int × Int)) : Prop := (mulOk (other.1 - one.1) (third.2 - one.2) = true) ∧ (mulOk (other.2 - one.2) (third.1 - one.1) = true)
@[irreducible] def v_law_is_freeB_b4 (places : (List (Int × Int))) (place : (Int × Int)) (s5 : Unit) (x7 : (Int × (Int × Int))) : Lp Bool (Unit) := (if (!eqB (((cut places (some (x7.1 + (1 : Int))) none).filter fun x8 => (eqB (v_law_bendB x7.2 x8 place) (0 : Int))).map fun x8 => (1 : Int)) ([] : (List Int))) = true then (Lp.rt false) else (Lp.nx ()))
@[irreducible] def ok_law_is_freeB_b4 (places : (List (Int × Int))) (place : (Int × Int)) (s5 : Unit) (x7 : (Int × (Int × Int))) : Prop := (∀ x8 ∈ (cut places (some (x7.1 + (1 : Int))) none), (ok_law_bendB x7.2 x8 place)) ∧ ((cut places (some (x7.1 + (1 : Int))) none).length ≤ LIM)
@[irreducible] def v_law_is_freeB (places : (List (Int × Int))) (place : (Int × Int)) : Bool := (if (memB place places) = true then false else ((forV (v_law_is_freeB_b4 places place) (enV 0 places) ()).fin (fun s13 => true) (fun r => r)))
@[irreducible] def ok_law_is_freeB (places : (List (Int × Int))) (place : (Int × Int)) : Prop := (memB place places) = false → (forOk (v_law_is_freeB_b4 places place) (ok_law_is_freeB_b4 places place) (enV 0 places) ())
def v_law_fieldB_t1 (q : Pen) : Int × Pen := (v_law_draw q (4 : Int))
def v_law_fieldB_t2 (q : Pen) (most : Int) : Int × Pen := (v_law_draw (v_law_fieldB_t1 q).2 most)
def v_law_fieldB_wide_3 (q : Pen) : Int := (gI [(3 : Int), (6 : Int), (12 : Int), (40 : Int)] (v_law_fieldB_t1 q).1)
def v_law_fieldB_t4 (q : Pen) (most : Int) : Int × Pen := (v_law_draw (v_law_fieldB_t2 q most).2 (2 : Int))
def v_law_fieldB_many_5 (q : Pen) (most : Int) : Int := (gI [((1 : Int) + (v_law_fieldB_t2 q most).1), most] (v_law_fieldB_t4 q most).1)
def v_law_fieldB_t12 (q : Pen) (s9 : (List (Int × Int)) × Pen) : Int × Pen := (v_law_draw s9.2 ((v_law_fieldB_wide_3 q) + (1 : Int)))
def v_law_fieldB_t13 (q : Pen) (s9 : (List (Int × Int)) × Pen) : Int × Pen := (v_law_draw (v_law_fieldB_t12 q s9).2 ((v_law_fieldB_wide_3 q) + (1 : Int)))
def v_law_fieldB_t14 (q : Pen) (s9 : (List (Int × Int)) × Pen) : Int × Pen := (v_law_draw (v_law_fieldB_t13 q s9).2 (5 : Int))
def v_law_fieldB_t17 (q : Pen) (s9 : (List (Int × Int)) × Pen) : Int × Pen := (v_law_draw (v_law_fieldB_t14 q s9).2 (2 : Int))
def v_law_fieldB_place_18 (q : Pen) (s9 : (List (Int × Int)) × Pen) : (Int × Int) := (((v_law_fieldB_t12 q s9).1, (v_law_fieldB_t13 q s9).1).1, (gI [(0 : Int), (v_law_fieldB_wide_3 q)] (v_law_fieldB_t17 q s9).1))
def v_law_fieldB_j19 (q : Pen) (s9 : (List (Int × Int)) × Pen) : (Int × Int) × Pen := (if (eqB (v_law_fieldB_t14 q s9).1 (0 : Int)) = true then ((v_law_fieldB_place_18 q s9), (v_law_fieldB_t17 q s9).2) else (((v_law_fieldB_t12 q s9).1, (v_law_fieldB_t13 q s9).1), (v_law_fieldB_t14 q s9).2))
@[irreducible] def v_law_fieldB_b8 (q : Pen) (most : Int) (s9 : (List (Int × Int)) × Pen) (x11 : Int) : (List (Int × Int)) × Pen := (if ((decide ((s9.1.length : Int) < (v_law_fieldB_many_5 q most))) && (v_law_is_freeB s9.1 (v_law_fieldB_j19 q s9).1)) = true then ((s9.1 ++ [(v_law_fieldB_j19 q s9).1]), (v_law_fieldB_j19 q s9).2) else (s9.1, (v_law_fieldB_j19 q s9).2))
@[irreducible] def ok_law_fieldB_b8 (q : Pen) (most : Int) (s9 : (List (Int × Int)) × Pen) (x11 : Int) : Prop := (ok_law_draw s9.2 ((v_law_fieldB_wide_3 q) + (1 : Int))) ∧ (ok_law_draw (v_law_fieldB_t12 q s9).2 ((v_law_fieldB_wide_3 q) + (1 : Int))) ∧ (ok_law_draw (v_law_fieldB_t13 q s9).2 (5 : Int)) ∧ ((eqB (v_law_fieldB_t14 q s9).1 (0 : Int)) = true → ((ok_law_draw (v_law_fieldB_t14 q s9).2 (2 : Int)) ∧ (okIx [(0 : Int), (v_law_fieldB_wide_3 q)] (v_law_fieldB_t17 q s9).1))) ∧ ((decide ((s9.1.length : Int) < (v_law_fieldB_many_5 q most))) = true → (ok_law_is_freeB s9.1 (v_law_fieldB_j19 q s9).1)) ∧ (((decide ((s9.1.length : Int) < (v_law_fieldB_many_5 q most))) && (v_law_is_freeB s9.1 (v_law_fieldB_j19 q s9).1)) = true → (s9.1.length + [(v_law_fieldB_j19 q s9).1].length ≤ LIM))
def v_law_fieldB_l23 (q : Pen) (most : Int) : (List (Int × Int)) × Pen := (List.foldl (v_law_fieldB_b8 q most) (([] : (List (Int × Int))), (v_law_fieldB_t4 q most).2) (rgI 0 ((3 : Int) * most)))
@[irreducible] def v_law_fieldB (q : Pen) (most : Int) : ((List (Int × Int)) × Pen) := ((v_law_fieldB_l23 q most).1, (v_law_fieldB_l23 q most).2)
@[irreducible] def ok_law_fieldB (q : Pen) (most : Int) : Prop := (ok_law_draw q (4 : Int)) ∧ (okIx [(3 : Int), (6 : Int), (12 : Int), (40 : Int)] (v_law_fieldB_t1 q).1) ∧ (ok_law_draw (v_law_fieldB_t1 q).2 most) ∧ (ok_law_draw (v_law_fieldB_t2 q most).2 (2 : Int)) ∧ (okIx [((1 : Int) + (v_law_fieldB_t2 q most).1), most] (v_law_fieldB_t4 q most).1) ∧ (mulOk (3 : Int) most = true) ∧ (-1000000 ≤ ((3 : Int) * most) ∧ ((3 : Int) * most) ≤ 1000000) ∧ (fldOk (v_law_fieldB_b8 q most) (ok_law_fieldB_b8 q most) (rgI 0 ((3 : Int) * most)) (([] : (List (Int × Int))), (v_law_fieldB_t4 q most).2))
@[irreducible] def v_law_sideB (field_here : (List (Int × Int))) (a : Int) (b : Int) (c : Int) : Int := ((if (decide ((0 : Int) < (v_law_bendB (gI field_here a) (gI field_here b) (gI field_here c)))) = true then (1 : Int) else 0) - (if (decide ((v_law_bendB (gI field_here a) (gI field_here b) (gI field_here c)) < (0 : Int))) = true then (1 : Int) else 0))
@[irreducible] def ok_law_sideB (field_here : (List (Int × Int))) (a : Int) (b : Int) (c : Int) : Prop := (okIx field_here a) ∧ (okIx field_here b) ∧ (okIx field_here c) ∧ (ok_law_bendB (gI field_here a) (gI field_here b) (gI field_here c))
@[irreducible] def v_law_is_heldA (field_here : (List (Int × Int))) (lot : (List Int)) (stake : Int) : Bool := (!eqB (((v_law_threes lot).filter fun x1 => (v_law_are_aboutA field_here x1 stake)).map fun x1 => (1 : Int)) ([] : (List Int)))
@[irreducible] def ok_law_is_heldA (field_here : (List (Int × Int))) (lot : (List Int)) (stake : Int) : Prop := (ok_law_threes lot) ∧ (∀ x1 ∈ (v_law_threes lot), (ok_law_are_aboutA field_here x1 stake)) ∧ ((v_law_threes lot).length ≤ LIM)
@[irreducible] def v_law_cornersA (field_here : (List (Int × Int))) (lot : (List Int)) : (List Int) := (lot.filter fun x1 => (!(v_law_is_heldA field_here lot x1)))
@[irreducible] def ok_law_cornersA (field_here : (List (Int × Int))) (lot : (List Int)) : Prop := (∀ x1 ∈ lot, (ok_law_is_heldA field_here lot x1)) ∧ (lot.length ≤ LIM)
end Rs
end

section
set_option Elab.async false
set_option linter.all false
set_option maxRecDepth 100000
set_option maxHeartbeats 1000000
set_option autoImplicit false
/-! RsHull: fields, lots, corners and ropes, plainly. Own work. -/
namespace Rs
open PySem
abbrev Fd := List (Int × Int)
def tb (F : Fd) (a b c : Int) : Int := v_bend (gI F a) (gI F b) (gI F c)
theorem bend_rot (a b c : Int × Int) : v_bend a b c = v_bend b c a := by unfold v_bend; grind
theorem bend_anti (a b c : Int × Int) : v_bend a b c = - v_bend b a c := by unfold v_bend; grind
theorem bend_pl (s u a b c : Int × Int) : v_bend s u a * v_bend s b c + v_bend s u b * v_bend s c a + v_bend s u c * v_bend s a b = 0 := by unfold v_bend; grind
theorem bend_sum (x a b c : Int × Int) : v_bend a b c = v_bend x a b + v_bend x b c + v_bend x c a := by unfold v_bend; grind
theorem bend_lin (m n : Int) (s a b c : Int × Int) : (m * a.1 + n * a.2 - (m * s.1 + n * s.2)) * v_bend s b c + (m * b.1 + n * b.2 - (m * s.1 + n * s.2)) * v_bend s c a + (m * c.1 + n * c.2 - (m * s.1 + n * s.2)) * v_bend s a b = 0 := by unfold v_bend; grind
theorem bend_self1 (a b : Int × Int) : v_bend a a b = 0 := by unfold v_bend; grind
theorem bend_self2 (a b : Int × Int) : v_bend a b b = 0 := by unfold v_bend; grind
theorem bend_self3 (a b : Int × Int) : v_bend a b a = 0 := by unfold v_bend; grind
section
variable (F : Fd)
theorem tb_rot (a b c : Int) : tb F a b c = tb F b c a := bend_rot ..
theorem tb_anti (a b c : Int) : tb F a b c = - tb F b a c := bend_anti ..
theorem tb_anti2 (a b c : Int) : tb F a b c = - tb F a c b := by rw [tb_rot F a b c, tb_anti F b c a, tb_rot F c b a, tb_rot F b a c]
theorem tb_pl (s u a b c : Int) : tb F s u a * tb F s b c + tb F s u b * tb F s c a + tb F s u c * tb F s a b = 0 := bend_pl ..
theorem tb_sum (x a b c : Int) : tb F a b c = tb F x a b + tb F x b c + tb F x c a := bend_sum ..
theorem tb_1 (a b : Int) : tb F a a b = 0 := bend_self1 ..
theorem tb_2 (a b : Int) : tb F a b b = 0 := bend_self2 ..
theorem tb_3 (a b : Int) : tb F a b a = 0 := bend_self3 ..
end
/-- a field -/
structure GF (F : Fd) : Prop where
  pos : 1 ≤ F.length
  few : F.length ≤ 8
  box : ∀ p ∈ F, (0 ≤ p.1 ∧ p.1 ≤ 40) ∧ 0 ≤ p.2 ∧ p.2 ≤ 40
  nd : F.Nodup
  free : ∀ a b c : Int, 0 ≤ a → a < b → b < c → c < F.length → tb F a b c ≠ 0
/-- a stake of a field -/
def rg (F : Fd) (a : Int) : Prop := 0 ≤ a ∧ a < F.length
theorem GF.ne {F : Fd} (g : GF F) {a b c : Int} (ha : rg F a) (hb : rg F b) (hc : rg F c) (h1 : a ≠ b) (h2 : b ≠ c) (h3 : a ≠ c) : tb F a b c ≠ 0 := by
  unfold rg at ha hb hc
  rcases Int.lt_or_gt_of_ne h1 with h1 | h1 <;> rcases Int.lt_or_gt_of_ne h2 with h2 | h2 <;> rcases Int.lt_or_gt_of_ne h3 with h3 | h3
  · exact g.free a b c ha.1 h1 h2 hc.2
  · omega
  · rw [tb_anti2]; have := g.free a c b ha.1 h3 h2 hb.2; omega
  · rw [tb_rot, tb_rot]; exact g.free c a b hc.1 h3 h1 hb.2
  · rw [tb_anti]; have := g.free b a c hb.1 h1 h3 hc.2; omega
  · rw [tb_rot]; exact g.free b c a hb.1 h2 h3 ha.2
  · omega
  · rw [tb_anti, tb_rot, tb_rot]
    have := g.free c b a hc.1 h2 h1 ha.2
    intro h
    apply this
    omega
/-- a lot of a field of n stakes -/
structure GL (n : Nat) (L : List Int) : Prop where
  inc : L.Pairwise (· < ·)
  box : ∀ x ∈ L, 0 ≤ x ∧ x < n
theorem GL.nodup {n : Nat} {L : List Int} (g : GL n L) : L.Nodup := g.inc.imp fun h => by omega
theorem GL.rg {F : Fd} {L : List Int} (g : GL F.length L) {x : Int} (h : x ∈ L) : rg F x := g.box x h
theorem inc_le : ∀ (L : List Int) (a b : Int), L.Pairwise (· < ·) → (∀ x ∈ L, a ≤ x ∧ x < b) → (L.length : Int) ≤ max 0 (b - a)
  | [], a, b, _, _ => by simp; omega
  | x :: L, a, b, h, h2 => by
    have h3 := List.pairwise_cons.mp h
    have hx := h2 x List.mem_cons_self
    have ih := inc_le L (x + 1) b h3.2 fun y hy => ⟨by have := h3.1 y hy; omega, (h2 y (List.mem_cons_of_mem _ hy)).2⟩
    rw [List.length_cons]
    push_cast
    omega
theorem GL.len {n : Nat} {L : List Int} (g : GL n L) : L.length ≤ n := by
  have := inc_le L 0 n g.inc g.box
  omega
theorem GL.filter {n : Nat} {L : List Int} (g : GL n L) (p : Int → Bool) : GL n (L.filter p) := ⟨g.inc.filter p, fun x h => g.box x (List.mem_filter.mp h).1⟩
theorem GL.nil (n : Nat) : GL n [] := ⟨List.Pairwise.nil, fun _ h => nomatch h⟩

/-! ### half planes -/
theorem half {f : Int → Int → Int} (anti : ∀ a b, f a b = - f b a) : ∀ W : List Int, W ≠ [] → (∀ a ∈ W, ∀ b ∈ W, a ≠ b → f a b ≠ 0) → (¬ ∃ a ∈ W, ∃ b ∈ W, ∃ c ∈ W, 0 < f a b ∧ 0 < f b c ∧ 0 < f c a) → ∃ t ∈ W, ∀ o ∈ W, o ≠ t → 0 < f t o
  | [], h, _, _ => (h rfl).elim
  | u :: W, _, hn, hs => by
    by_cases hW : W = []
    · subst hW
      exact ⟨u, List.mem_cons_self, fun o ho hne => (hne (by simpa using ho)).elim⟩
    obtain ⟨t, ht, hl⟩ := half anti W hW (fun a ha b hb => hn a (List.mem_cons_of_mem _ ha) b (List.mem_cons_of_mem _ hb)) fun ⟨a, ha, b, hb, c, hc, h⟩ => hs ⟨a, List.mem_cons_of_mem _ ha, b, List.mem_cons_of_mem _ hb, c, List.mem_cons_of_mem _ hc, h⟩
    have ht' := List.mem_cons_of_mem u ht
    by_cases hut : u = t
    · subst hut
      refine ⟨u, List.mem_cons_self, fun o ho hne => ?_⟩
      rcases List.mem_cons.mp ho with rfl | ho
      · exact (hne rfl).elim
      · exact hl o ho hne
    have h0 := hn u List.mem_cons_self t ht' hut
    by_cases hpos : 0 < f t u
    · refine ⟨t, ht', fun o ho hne => ?_⟩
      rcases List.mem_cons.mp ho with rfl | ho
      · exact hpos
      · exact hl o ho hne
    · have hut' : 0 < f u t := by have := anti u t; omega
      refine ⟨u, List.mem_cons_self, fun o ho hne => ?_⟩
      rcases List.mem_cons.mp ho with rfl | ho
      · exact (hne rfl).elim
      · by_cases hot : o = t
        · subst hot; exact hut'
        · have h1 := hl o ho hot
          have h2 := hn u List.mem_cons_self o (List.mem_cons_of_mem _ ho) (fun z => hne z.symm)
          by_cases h3 : 0 < f u o
          · exact h3
          · have h4 : 0 < f o u := by have := anti o u; omega
            exact (hs ⟨u, List.mem_cons_self, t, ht', o, List.mem_cons_of_mem _ ho, hut', h1, h4⟩).elim

/-! ### corners -/
/-- three of L are about s -/
def Surr (F : Fd) (L : List Int) (s : Int) : Prop := ∃ a ∈ L, ∃ b ∈ L, ∃ c ∈ L, 0 < tb F s a b ∧ 0 < tb F s b c ∧ 0 < tb F s c a
/-- all others of L are to the left of the way from s to t -/
def Onw (F : Fd) (L : List Int) (s t : Int) : Prop := t ∈ L ∧ t ≠ s ∧ ∀ o ∈ L, o ≠ s → o ≠ t → 0 < tb F s t o
theorem Surr.mono {F : Fd} {L M : List Int} {s : Int} (h : Surr F L s) (hm : ∀ x ∈ L, x ∈ M) : Surr F M s := by
  obtain ⟨a, ha, b, hb, c, hc, h⟩ := h
  exact ⟨a, hm a ha, b, hm b hb, c, hm c hc, h⟩
/-- no three are about s where all of them are on one side of a line through it -/
theorem line_not_surr {F : Fd} {L : List Int} {s u : Int} (h : ∀ o ∈ L, o ≠ s → o ≠ u → 0 < tb F s u o) : ¬ Surr F L s := by
  rintro ⟨a, ha, b, hb, c, hc, h1, h2, h3⟩
  have e := tb_pl F s u a b c
  have na : a ≠ s := fun z => by rw [z, tb_1] at h1; omega
  have nb : b ≠ s := fun z => by rw [z, tb_1] at h2; omega
  have nc : c ≠ s := fun z => by rw [z, tb_1] at h3; omega
  have ge : ∀ x ∈ L, x ≠ s → 0 ≤ tb F s u x := fun x hx nx => by
    by_cases hu : x = u
    · rw [hu, tb_2]; omega
    · have := h x hx nx hu; omega
  have ga := ge a ha na
  have gb := ge b hb nb
  have gc := ge c hc nc
  have m1 : 0 ≤ tb F s u a * tb F s b c := Int.mul_nonneg ga (by omega)
  have m2 : 0 ≤ tb F s u b * tb F s c a := Int.mul_nonneg gb (by omega)
  have m3 : 0 ≤ tb F s u c * tb F s a b := Int.mul_nonneg gc (by omega)
  have z1 : tb F s u a = 0 := by
    have : tb F s u a * tb F s b c = 0 := by omega
    rcases Int.mul_eq_zero.mp this with z | z <;> omega
  have z2 : tb F s u b = 0 := by
    have : tb F s u b * tb F s c a = 0 := by omega
    rcases Int.mul_eq_zero.mp this with z | z <;> omega
  have ea : a = u := Classical.byContradiction fun z => by have := h a ha na z; omega
  have eb : b = u := Classical.byContradiction fun z => by have := h b hb nb z; omega
  rw [ea, eb, tb_2] at h1
  omega
/-- the same of the other side -/
theorem line_not_surr' {F : Fd} {L : List Int} {s u : Int} (h : ∀ o ∈ L, o ≠ s → o ≠ u → tb F s u o < 0) : ¬ Surr F L s := by
  rintro ⟨a, ha, b, hb, c, hc, h1, h2, h3⟩
  have e := tb_pl F s u a b c
  have na : a ≠ s := fun z => by rw [z, tb_1] at h1; omega
  have nb : b ≠ s := fun z => by rw [z, tb_1] at h2; omega
  have nc : c ≠ s := fun z => by rw [z, tb_1] at h3; omega
  have ge : ∀ x ∈ L, x ≠ s → 0 ≤ - tb F s u x := fun x hx nx => by
    by_cases hu : x = u
    · rw [hu, tb_2]; omega
    · have := h x hx nx hu; omega
  have ga := ge a ha na
  have gb := ge b hb nb
  have gc := ge c hc nc
  have m1 : 0 ≤ (- tb F s u a) * tb F s b c := Int.mul_nonneg ga (by omega)
  have m2 : 0 ≤ (- tb F s u b) * tb F s c a := Int.mul_nonneg gb (by omega)
  have m3 : 0 ≤ (- tb F s u c) * tb F s a b := Int.mul_nonneg gc (by omega)
  rw [Int.neg_mul] at m1 m2 m3
  have z1 : tb F s u a = 0 := by
    have : tb F s u a * tb F s b c = 0 := by omega
    rcases Int.mul_eq_zero.mp this with z | z <;> omega
  have z2 : tb F s u b = 0 := by
    have : tb F s u b * tb F s c a = 0 := by omega
    rcases Int.mul_eq_zero.mp this with z | z <;> omega
  have ea : a = u := Classical.byContradiction fun z => by have := h a ha na z; omega
  have eb : b = u := Classical.byContradiction fun z => by have := h b hb nb z; omega
  rw [ea, eb, tb_2] at h1
  omega
theorem Onw.not_surr {F : Fd} {L : List Int} {s t : Int} (h : Onw F L s t) : ¬ Surr F L s := line_not_surr h.2.2
section
variable {F : Fd} {L : List Int}
theorem onw_of (g : GF F) (gl : ∀ x ∈ L, rg F x) {s : Int} (hs : rg F s) (hx : ∃ x ∈ L, x ≠ s) (h : ¬ Surr F L s) : ∃ t, Onw F L s t := by
  obtain ⟨x, hx, hxs⟩ := hx
  obtain ⟨t, ht, hl⟩ := half (f := fun a b => tb F s a b) (fun a b => tb_anti2 F s a b) (L.filter fun y => decide (y ≠ s)) (fun z => by
      have : x ∈ L.filter fun y => decide (y ≠ s) := List.mem_filter.mpr ⟨hx, decide_eq_true hxs⟩
      rw [z] at this; cases this)
    (fun a ha b hb hab => by
      have ha := List.mem_filter.mp ha
      have hb := List.mem_filter.mp hb
      exact g.ne hs (gl a ha.1) (gl b hb.1) (fun z => of_decide_eq_true ha.2 z.symm) hab (fun z => of_decide_eq_true hb.2 z.symm))
    (fun ⟨a, ha, b, hb, c, hc, h1⟩ => h ⟨a, (List.mem_filter.mp ha).1, b, (List.mem_filter.mp hb).1, c, (List.mem_filter.mp hc).1, h1⟩)
  have ht := List.mem_filter.mp ht
  exact ⟨t, ht.1, of_decide_eq_true ht.2, fun o ho h1 h2 => hl o (List.mem_filter.mpr ⟨ho, decide_eq_true h1⟩) h2⟩
theorem Onw.uniq {s t u : Int} (h1 : Onw F L s t) (h2 : Onw F L s u) : t = u := Classical.byContradiction fun z => by
  have a := h1.2.2 u h2.1 h2.2.1 (fun w => z w.symm)
  have b := h2.2.2 t h1.1 h1.2.1 z
  have := tb_anti2 F s t u
  omega
theorem Onw.inj {s t u : Int} (hs : s ∈ L) (hu : u ∈ L) (h1 : Onw F L s t) (h2 : Onw F L u t) : s = u := Classical.byContradiction fun z => by
  have a := h1.2.2 u hu (fun w => z w.symm) (fun w => h2.2.1 w.symm)
  have b := h2.2.2 s hs z (fun w => h1.2.1 w.symm)
  rw [tb_rot F u t s, tb_anti F t s u] at b
  omega
theorem Onw.next (g : GF F) (gl : ∀ x ∈ L, rg F x) {s t : Int} (hs : s ∈ L) (h : Onw F L s t) : ∃ u, Onw F L t u := by
  refine onw_of g gl (gl t h.1) ⟨s, hs, fun z => h.2.1 z.symm⟩ (line_not_surr' (u := s) fun o ho h1 h2 => ?_)
  have := h.2.2 o ho h2 h1
  rw [tb_anti] at this
  omega
/-- some stake is a corner -/
theorem min_of {f : Int → Int} : ∀ L : List Int, L ≠ [] → ∃ s ∈ L, ∀ x ∈ L, f s ≤ f x
  | [], h => (h rfl).elim
  | [u], _ => ⟨u, List.mem_cons_self, fun x hx => by rw [List.mem_singleton.mp hx]; exact Int.le_refl _⟩
  | u :: v :: L, _ => by
    obtain ⟨s, hs, h⟩ := min_of (f := f) (v :: L) (fun z => nomatch z)
    by_cases hu : f u ≤ f s
    · refine ⟨u, List.mem_cons_self, fun x hx => ?_⟩
      rcases List.mem_cons.mp hx with rfl | hx
      · exact Int.le_refl _
      · exact Int.le_trans hu (h x hx)
    · refine ⟨s, List.mem_cons_of_mem _ hs, fun x hx => ?_⟩
      rcases List.mem_cons.mp hx with rfl | hx
      · omega
      · exact h x hx
theorem gI_nat {α : Type} [Inhabited α] {xs : List α} {n : Nat} (h : n < xs.length) : gI xs (n : Int) = xs[n] := by
  unfold gI; rw [L2.atI_nat (List.getElem?_eq_getElem h)]; rfl
theorem gI_mem {α : Type} [Inhabited α] {xs : List α} {i : Int} (h : 0 ≤ i ∧ i < xs.length) : gI xs i ∈ xs := by
  obtain ⟨n, rfl⟩ : ∃ n : Nat, i = n := ⟨i.toNat, by omega⟩
  have hn : n < xs.length := by omega
  rw [gI_nat hn]; exact List.getElem_mem hn
theorem gI_inj {F : Fd} (g : GF F) {a b : Int} (ha : rg F a) (hb : rg F b) (h : gI F a = gI F b) : a = b := by
  unfold rg at ha hb
  obtain ⟨n, rfl⟩ : ∃ n : Nat, a = n := ⟨a.toNat, by omega⟩
  obtain ⟨m, rfl⟩ : ∃ m : Nat, b = m := ⟨b.toNat, by omega⟩
  have hn : n < F.length := by omega
  have hm : m < F.length := by omega
  rw [gI_nat hn, gI_nat hm] at h
  have := (List.getElem_inj (h₀ := hn) (h₁ := hm) g.nd).mp h
  omega
/-- who is farthest in some direction is no held one -/
theorem far_not_surr {m n s : Int} (h : ∀ x ∈ L, x ≠ s → m * (gI F x).1 + n * (gI F x).2 < m * (gI F s).1 + n * (gI F s).2) : ¬ Surr F L s := by
  rintro ⟨a, ha, b, hb, c, hc, h1, h2, h3⟩
  have e := bend_lin m n (gI F s) (gI F a) (gI F b) (gI F c)
  have na : a ≠ s := fun z => by rw [z, tb_1] at h1; omega
  have nb : b ≠ s := fun z => by rw [z, tb_1] at h2; omega
  have nc : c ≠ s := fun z => by rw [z, tb_1] at h3; omega
  have ga := h a ha na
  have gb := h b hb nb
  have gc := h c hc nc
  have m1 := Int.mul_neg_of_neg_of_pos (show m * (gI F a).1 + n * (gI F a).2 - (m * (gI F s).1 + n * (gI F s).2) < 0 by omega) h2
  have m2 := Int.mul_neg_of_neg_of_pos (show m * (gI F b).1 + n * (gI F b).2 - (m * (gI F s).1 + n * (gI F s).2) < 0 by omega) h3
  have m3 := Int.mul_neg_of_neg_of_pos (show m * (gI F c).1 + n * (gI F c).2 - (m * (gI F s).1 + n * (gI F s).2) < 0 by omega) h1
  unfold tb at m1 m2 m3
  omega
theorem some_corner (g : GF F) (gl : ∀ x ∈ L, rg F x) (h : L ≠ []) : ∃ s ∈ L, ¬ Surr F L s := by
  obtain ⟨s, hs, hm⟩ := min_of (f := fun x => 41 * (gI F x).1 + (gI F x).2) L h
  refine ⟨s, hs, far_not_surr (m := -41) (n := -1) fun x hx hne => ?_⟩
  have := hm x hx
  have b1 := g.box _ (gI_mem (gl x hx))
  have b2 := g.box _ (gI_mem (gl s hs))
  have : gI F x ≠ gI F s := fun z => hne (gI_inj g (gl x hx) (gl s hs) z)
  have : ¬ ((gI F x).1 = (gI F s).1 ∧ (gI F x).2 = (gI F s).2) := fun z => this (Prod.ext z.1 z.2)
  omega
end
/-! ### the program's corners -/
theorem side_pos {F : Fd} {a b c : Int} : v_side F a b c = 1 ↔ 0 < tb F a b c := by
  unfold v_side tb
  generalize v_bend (gI F a) (gI F b) (gI F c) = z
  by_cases h1 : 0 < z <;> by_cases h2 : z < 0 <;> simp [h1, h2] <;> omega
theorem side_neg {F : Fd} {a b c : Int} : v_side F a b c = -1 ↔ tb F a b c < 0 := by
  unfold v_side tb
  generalize v_bend (gI F a) (gI F b) (gI F c) = z
  by_cases h1 : 0 < z <;> by_cases h2 : z < 0 <;> simp [h1, h2] <;> omega
theorem side_zero {F : Fd} {a b c : Int} : v_side F a b c = 0 ↔ tb F a b c = 0 := by
  unfold v_side tb
  generalize v_bend (gI F a) (gI F b) (gI F c) = z
  by_cases h1 : 0 < z <;> by_cases h2 : z < 0 <;> simp [h1, h2] <;> omega
theorem fold_filter {α : Type} (p : α → Bool) : ∀ (L acc : List α), L.foldl (fun s x => if p x = true then s ++ [x] else s) acc = acc ++ L.filter p
  | [], acc => by simp
  | x :: L, acc => by
    rw [List.foldl_cons, fold_filter p L, List.filter_cons]
    by_cases h : p x = true
    · rw [if_pos h, if_pos h, List.append_assoc]; rfl
    · rw [if_neg h, if_neg h]
section
variable {F : Fd} {L : List Int}
theorem onward_eq (s : Int) : v_onward F L s = L.filter fun x => (!eqB x s) && ((L.filter fun y => !memB y [s, x]).all fun o => eqB (v_side F s x o) 1) := by
  unfold v_onward v_onward_l14
  have : v_onward_b3 F L s = fun s4 x6 => if ((!eqB x6 s) && ((L.filter fun y => !memB y [s, x6]).all fun o => eqB (v_side F s x6 o) 1)) = true then s4 ++ [x6] else s4 := by
    funext a b; unfold v_onward_b3; rfl
  rw [this, fold_filter (fun x => (!eqB x s) && ((L.filter fun y => !memB y [s, x]).all fun o => eqB (v_side F s x o) 1))]
  rfl
theorem mem_onward {s t : Int} : t ∈ v_onward F L s ↔ Onw F L s t := by
  rw [onward_eq, List.mem_filter]
  unfold Onw
  constructor
  · rintro ⟨h1, h2⟩
    rw [Bool.and_eq_true, List.all_eq_true] at h2
    obtain ⟨h2, h3⟩ := h2
    refine ⟨h1, by simpa using h2, fun o ho a b => ?_⟩
    have := h3 o (List.mem_filter.mpr ⟨ho, by simp [a, b]⟩)
    rw [eqB_iff] at this
    exact side_pos.mp this
  · rintro ⟨h1, h2, h3⟩
    refine ⟨h1, ?_⟩
    rw [Bool.and_eq_true, List.all_eq_true]
    refine ⟨by simpa using h2, fun o ho => ?_⟩
    have ho := List.mem_filter.mp ho
    have h4 : o ≠ s ∧ o ≠ t := by
      have := ho.2
      simp at this
      exact this
    rw [eqB_iff]
    exact side_pos.mpr (h3 o ho.1 h4.1 h4.2)
theorem all_one {α : Type} {t : α} : ∀ {l : List α}, l.Nodup → t ∈ l → (∀ x ∈ l, x = t) → l = [t]
  | [], _, h, _ => nomatch h
  | [x], _, _, h => by rw [h x List.mem_cons_self]
  | x :: y :: l, hn, _, h => by
    have a := h x List.mem_cons_self
    have b := h y (List.mem_cons_of_mem _ List.mem_cons_self)
    have := (List.nodup_cons.mp hn).1
    rw [a, b] at this
    exact (this List.mem_cons_self).elim
theorem onward_one (hn : L.Nodup) {s t : Int} (h : Onw F L s t) : v_onward F L s = [t] := by
  refine all_one ?_ (mem_onward.mpr h) fun x hx => (mem_onward.mp hx).uniq h
  rw [onward_eq]
  exact hn.filter _
theorem onward_get (hn : L.Nodup) {s t : Int} (h : Onw F L s t) : gI (v_onward F L s) 0 = t := by rw [onward_one hn h]; rfl
theorem three_of {s : Int} (h : Surr F L s) : 3 ≤ L.length := by
  obtain ⟨a, ha, b, hb, c, hc, h1, h2, h3⟩ := h
  have ab : a ≠ b := fun z => by rw [z, tb_2] at h1; omega
  have bc : b ≠ c := fun z => by rw [z, tb_2] at h2; omega
  have ca : c ≠ a := fun z => by rw [z, tb_2] at h3; omega
  match L, ha, hb, hc with
  | [], ha, _, _ => cases ha
  | [x], ha, hb, _ => exact (ab ((List.mem_singleton.mp ha).trans (List.mem_singleton.mp hb).symm)).elim
  | [x, y], ha, hb, hc =>
    simp at ha hb hc
    rcases ha with rfl | rfl <;> rcases hb with rfl | rfl <;> rcases hc with rfl | rfl <;> first | exact (ab rfl).elim | exact (bc rfl).elim | exact (ca rfl).elim
  | _ :: _ :: _ :: _, _, _, _ => simp
theorem is_corner_iff (g : GF F) (gl : GL F.length L) {s : Int} (hs : rg F s) : v_is_corner F L s = true ↔ ¬ Surr F L s := by
  unfold v_is_corner
  rw [Bool.or_eq_true, decide_eq_true_iff]
  constructor
  · rintro (h | h)
    · exact fun z => by have := three_of z; omega
    · have h : v_onward F L s ≠ [] := by simpa using h
      obtain ⟨t, ht⟩ := List.exists_mem_of_ne_nil _ h
      exact (mem_onward.mp ht).not_surr
  · intro h
    by_cases hl : (L.length : Int) < 3
    · exact .inl hl
    · refine .inr ?_
      have : ∃ x ∈ L, x ≠ s := by
        match L, gl.nodup, hl with
        | [], _, hl => simp at hl
        | [x], _, hl => simp at hl
        | x :: y :: r, hn, _ =>
          by_cases hx : x = s
          · refine ⟨y, by simp, fun z => ?_⟩
            have := (List.nodup_cons.mp hn).1
            rw [hx, ← z] at this
            exact this List.mem_cons_self
          · exact ⟨x, List.mem_cons_self, hx⟩
      obtain ⟨t, ht⟩ := onw_of g (fun x hx => gl.rg hx) hs this h
      have := mem_onward.mpr ht
      simp
      intro z
      rw [z] at this
      cases this
theorem mem_corners (g : GF F) (gl : GL F.length L) {s : Int} : s ∈ v_corners F L ↔ s ∈ L ∧ ¬ Surr F L s := by
  unfold v_corners
  rw [List.mem_filter]
  constructor
  · rintro ⟨h1, h2⟩
    exact ⟨h1, (is_corner_iff g gl (gl.rg h1)).mp h2⟩
  · rintro ⟨h1, h2⟩
    exact ⟨h1, (is_corner_iff g gl (gl.rg h1)).mpr h2⟩
theorem corners_eq (F : Fd) (L : List Int) : v_corners F L = L.filter fun s => v_is_corner F L s := by unfold v_corners; rfl
end
end Rs
end

section
set_option Elab.async false
set_option linter.all false
set_option maxRecDepth 100000
set_option maxHeartbeats 1000000
set_option autoImplicit false
/-! RsLaw1: what the laws' helpers draw and find, plainly. Own work. -/
namespace Rs
open PySem
theorem lim_of {n : Nat} (h : n ≤ 100000) : n ≤ LIM := h
theorem okI_of {α : Type} {xs : List α} {i : Int} (h : 0 ≤ i ∧ i < xs.length) : okIx xs i := ⟨by omega, h.2⟩
theorem rgI_mem {a b x : Int} : x ∈ rgI a b ↔ a ≤ x ∧ x < b := by
  unfold rgI
  rw [List.mem_map]
  constructor
  · rintro ⟨n, hn, rfl⟩
    have := List.mem_range.mp hn
    omega
  · intro h
    exact ⟨(x - a).toNat, List.mem_range.mpr (by omega), by omega⟩
theorem rgI_inc (a b : Int) : (rgI a b).Pairwise (· < ·) := by
  unfold rgI
  rw [List.pairwise_map]
  exact List.pairwise_lt_range.imp fun {i j} h => by omega
theorem rgI_len (a b : Int) : (rgI a b).length = (b - a).toNat := by unfold rgI; rw [List.length_map, List.length_range]
theorem GL.every (n : Nat) : GL n (rgI 0 n) := ⟨rgI_inc 0 n, fun x h => rgI_mem.mp h⟩
/-! loops whose every turn is well -/
theorem fld_inv {α σ : Type} {step : σ → α → σ} {ok : σ → α → Prop} (I : σ → Prop) : ∀ (xs : List α) (s : σ), I s → (∀ s, I s → ∀ x ∈ xs, ok s x ∧ I (step s x)) → fldOk step ok xs s ∧ I (xs.foldl step s)
  | [], s, h, _ => ⟨trivial, h⟩
  | x :: xs, s, h, hs => by
    have h1 := hs s h x List.mem_cons_self
    have h2 := fld_inv I xs (step s x) h1.2 fun s hI y hy => hs s hI y (List.mem_cons_of_mem _ hy)
    exact ⟨⟨h1.1, h2.1⟩, h2.2⟩
theorem for_inv {α ρ σ : Type} {step : σ → α → Lp ρ σ} {ok : σ → α → Prop} (I : σ → Prop) : ∀ (xs : List α) (s : σ), I s → (∀ s, I s → ∀ x ∈ xs, ok s x ∧ ∃ s', step s x = .nx s' ∧ I s') → forOk step ok xs s ∧ ∃ s', forV step xs s = .nx s' ∧ I s'
  | [], s, h, _ => ⟨trivial, s, rfl, h⟩
  | x :: xs, s, h, hs => by
    obtain ⟨h1, s', h2, h3⟩ := hs s h x List.mem_cons_self
    obtain ⟨h4, s2, h5, h6⟩ := for_inv I xs s' h3 fun s hI y hy => hs s hI y (List.mem_cons_of_mem _ hy)
    refine ⟨⟨h1, ?_⟩, s2, ?_, h6⟩
    · rw [h2]; exact h4
    · show (match step s x with
        | .nx s' => forV step xs s'
        | .bk s' => .nx s'
        | .rt r => .rt r) = _
      rw [h2]; exact h5
/-- a loop that looks for one thing -/
theorem forV_find {α ρ σ : Type} {step : σ → α → Lp ρ σ} {c : α → Bool} {r : ρ} {s : σ} (h : ∀ x, step s x = if c x = true then .rt r else .nx s) : ∀ xs : List α, forV step xs s = if xs.any c = true then .rt r else .nx s
  | [] => rfl
  | x :: xs => by
    show (match step s x with
      | .nx s' => forV step xs s'
      | .bk s' => .nx s'
      | .rt r => .rt r) = _
    rw [h x, List.any_cons]
    cases hc : c x with
    | true => simp
    | false =>
      simp only [Bool.false_eq_true, if_false, Bool.false_or]
      exact forV_find h xs
theorem forOk_all {α ρ σ : Type} {step : σ → α → Lp ρ σ} {ok : σ → α → Prop} : ∀ (xs : List α) (s : σ), (∀ s, ∀ x ∈ xs, ok s x) → forOk step ok xs s
  | [], _, _ => trivial
  | x :: xs, s, h => by
    refine ⟨h s x List.mem_cons_self, ?_⟩
    cases step s x with
    | nx s' => exact forOk_all xs s' fun s y hy => h s y (List.mem_cons_of_mem _ hy)
    | _ => trivial
theorem fldOk_all {α σ : Type} {step : σ → α → σ} {ok : σ → α → Prop} : ∀ (xs : List α) (s : σ), (∀ s, ∀ x ∈ xs, ok s x) → fldOk step ok xs s
  | [], _, _ => trivial
  | x :: xs, s, h => ⟨h s x List.mem_cons_self, fldOk_all xs _ fun s y hy => h s y (List.mem_cons_of_mem _ hy)⟩
/-! ### bends -/
theorem law_bend_eq : v_law_bend = v_bend := by
  funext a b c; unfold v_law_bend v_bend; rfl
theorem law_bend_ok : ok_law_bend = ok_bend := by
  funext a b c; unfold ok_law_bend ok_bend; rfl
theorem law_side_eq : v_law_side = v_side := by
  funext F a b c; unfold v_law_side v_side; rw [law_bend_eq]
theorem law_side_ok : ok_law_side = ok_side := by
  funext F a b c; unfold ok_law_side ok_side; rw [law_bend_ok]
def inBox (p : Int × Int) : Prop := (0 ≤ p.1 ∧ p.1 ≤ 40) ∧ 0 ≤ p.2 ∧ p.2 ≤ 40
theorem bend_ok {p q r : Int × Int} (hp : inBox p) (hq : inBox q) : ok_bend p q r := by
  unfold inBox at hp hq
  unfold ok_bend
  exact ⟨mulOk_l (by omega), mulOk_l (by omega)⟩
theorem GF.inBox {F : Fd} (g : GF F) {a : Int} (h : rg F a) : inBox (gI F a) := g.box _ (gI_mem h)
theorem side_ok {F : Fd} (g : GF F) {a b c : Int} (ha : rg F a) (hb : rg F b) (hc : rg F c) : ok_side F a b c := by
  unfold ok_side
  exact ⟨okI_of ha, okI_of hb, okI_of hc, bend_ok (g.inBox ha) (g.inBox hb)⟩
/-! ### drawn places -/
theorem enV_mem {α : Type} : ∀ (xs : List α) (k : Nat) (x : Int × α), x ∈ enV k xs ↔ ∃ i : Nat, xs[i]? = some x.2 ∧ x.1 = (k + i : Nat)
  | [], k, x => by simp [enV]
  | y :: xs, k, x => by
    unfold enV
    rw [List.mem_cons, enV_mem xs (k + 1) x]
    constructor
    · rintro (rfl | ⟨i, h1, h2⟩)
      · exact ⟨0, by simp, by simp⟩
      · exact ⟨i + 1, by simpa using h1, by rw [h2]; push_cast; omega⟩
    · rintro ⟨i, h1, h2⟩
      cases i with
      | zero =>
        left
        have e1 : y = x.2 := by simpa using h1
        have e2 : x.1 = (k : Int) := by simpa using h2
        rw [e1, ← e2]
      | succ i => exact .inr ⟨i, by simpa using h1, by rw [h2]; push_cast; omega⟩
theorem cut_drop {α : Type} (xs : List α) (k : Nat) : cut xs (some (k : Int)) none = xs.drop k := by
  unfold cut
  rw [HT.sIx_nat, HT.sIx_none]
  by_cases h : k ≤ xs.length
  · rw [Nat.min_eq_left h, List.take_of_length_le (by rw [List.length_drop]; exact Nat.le_refl _)]
  · rw [Nat.min_eq_right (by omega), List.drop_length, List.drop_eq_nil_of_le (by omega)]
    simp
theorem cut_take {α : Type} (xs : List α) (k : Nat) : cut xs none (some (k : Int)) = xs.take k := by
  unfold cut
  rw [HT.sIx_nat, HT.sIx_none, List.drop_zero, Nat.sub_zero]
  by_cases h : k ≤ xs.length
  · rw [Nat.min_eq_left h]
  · rw [Nat.min_eq_right (by omega), List.take_length, List.take_of_length_le (by omega)]
theorem cut_sub {α : Type} (xs : List α) (lo hi : Option Int) : (cut xs lo hi).Sublist xs := by
  unfold cut
  exact (List.take_sublist _ _).trans (List.drop_sublist _ _)
/-- a place unlike others and on no line of two of them -/
def Free (P : Fd) (p : Int × Int) : Prop := p ∉ P ∧ ∀ (i j : Nat) (q s : Int × Int), i < j → P[i]? = some q → P[j]? = some s → v_bend q s p ≠ 0
theorem is_free_iff (P : Fd) (p : Int × Int) : v_law_is_free P p = true ↔ Free P p := by
  unfold v_law_is_free Free
  by_cases hp : p ∈ P
  · rw [if_pos (by simpa using hp)]
    exact ⟨fun h => (nomatch h), fun h => (h.1 hp).elim⟩
  · rw [if_neg (by simpa using hp)]
    rw [forV_find (c := fun x => !eqB (((cut P (some (x.1 + 1)) none).filter fun y => eqB (v_law_bend x.2 y p) 0).map fun _ => (1 : Int)) []) (r := false) (s := ()) (fun x => by unfold v_law_is_free_b4; rfl)]
    constructor
    · intro h
      refine ⟨hp, fun i j q s hij hi hj hz => ?_⟩
      have : (enV 0 P).any (fun x => !eqB (((cut P (some (x.1 + 1)) none).filter fun y => eqB (v_law_bend x.2 y p) 0).map fun _ => (1 : Int)) []) = true := by
        refine List.any_eq_true.mpr ⟨((i : Int), q), (enV_mem P 0 _).mpr ⟨i, hi, by simp⟩, ?_⟩
        have e : ((i : Int) + 1) = ((i + 1 : Nat) : Int) := by push_cast; rfl
        rw [e, cut_drop]
        have hm : s ∈ (P.drop (i + 1)).filter fun y => eqB (v_law_bend q y p) 0 := by
          refine List.mem_filter.mpr ⟨List.mem_of_getElem? (i := j - (i + 1)) ?_, ?_⟩
          · rw [List.getElem?_drop, show i + 1 + (j - (i + 1)) = j by omega]; exact hj
          · rw [law_bend_eq, eqB_iff]; exact hz
        cases hl : (P.drop (i + 1)).filter fun y => eqB (v_law_bend q y p) 0 with
        | nil => rw [hl] at hm; cases hm
        | cons y l => simp [eqB]
      rw [this] at h
      cases h
    · rintro ⟨_, h⟩
      have : (enV 0 P).any (fun x => !eqB (((cut P (some (x.1 + 1)) none).filter fun y => eqB (v_law_bend x.2 y p) 0).map fun _ => (1 : Int)) []) = false := by
        rw [List.any_eq_false]
        intro x hx
        obtain ⟨i, hi, e1⟩ := (enV_mem P 0 x).mp hx
        have e : x.1 + 1 = ((i + 1 : Nat) : Int) := by rw [e1]; push_cast; omega
        rw [e, cut_drop]
        have : (P.drop (i + 1)).filter (fun y => eqB (v_law_bend x.2 y p) 0) = [] := by
          rw [List.filter_eq_nil_iff]
          intro y hy hz
          rw [law_bend_eq, eqB_iff] at hz
          obtain ⟨j, hj⟩ := List.getElem?_of_mem hy
          rw [List.getElem?_drop] at hj
          exact h i (i + 1 + j) x.2 y (by omega) hi hj hz
        rw [this]
        simp [eqB]
      rw [this]
      rfl
theorem is_free_ok {P : Fd} {p : Int × Int} (h : ∀ x ∈ P, inBox x) (hl : P.length ≤ 1000) : ok_law_is_free P p := by
  unfold ok_law_is_free
  intro _
  refine forOk_all _ _ fun s x hx => ?_
  obtain ⟨i, hi, e1⟩ := (enV_mem P 0 x).mp hx
  unfold ok_law_is_free_b4
  have hc : ∀ y ∈ cut P (some (x.1 + 1)) none, y ∈ P := fun y hy => (cut_sub P _ _).subset hy
  refine ⟨fun y hy => ?_, lim_of (Nat.le_trans (cut_sub P _ _).length_le (by omega))⟩
  rw [law_bend_ok]
  exact bend_ok (h _ (List.mem_of_getElem? hi)) (h y (hc y hy))
/-- a field in the making -/
structure PF (F : Fd) : Prop where
  box : ∀ p ∈ F, inBox p
  nd : F.Nodup
  free : ∀ (a b c : Nat) (p q r : Int × Int), F[a]? = some p → F[b]? = some q → F[c]? = some r → a < b → b < c → v_bend p q r ≠ 0
theorem PF.nil : PF [] := ⟨fun p h => (nomatch h), List.nodup_nil, fun a b c p q r h => by simp at h⟩
theorem PF.more {F : Fd} (f : PF F) {p : Int × Int} (hb : inBox p) (h : Free F p) : PF (F ++ [p]) := by
  refine ⟨fun q hq => ?_, ?_, fun a b c q s r h1 h2 h3 h4 h5 => ?_⟩
  · rcases List.mem_append.mp hq with hq | hq
    · exact f.box q hq
    · rw [List.mem_singleton.mp hq]; exact hb
  · rw [List.nodup_append]
    refine ⟨f.nd, by simp, fun a ha b hb' => ?_⟩
    rw [List.mem_singleton.mp hb']
    exact fun z => h.1 (by rw [← z]; exact ha)
  · have hc : c < (F ++ [p]).length := (List.getElem?_eq_some_iff.mp h3).1
    rw [List.length_append] at hc
    simp at hc
    rw [List.getElem?_append_left (by omega)] at h1 h2
    by_cases hcl : c < F.length
    · rw [List.getElem?_append_left hcl] at h3
      exact f.free a b c q s r h1 h2 h3 h4 h5
    · have : c = F.length := by omega
      subst this
      rw [List.getElem?_append_right (Nat.le_refl _)] at h3
      simp at h3
      subst h3
      exact h.2 a b q s h4 h1 h2
theorem gI_some {α : Type} [Inhabited α] {xs : List α} {n : Nat} (h : n < xs.length) : xs[n]? = some (gI xs (n : Int)) := by
  rw [gI_nat h]; exact List.getElem?_eq_getElem h
theorem PF.gf {F : Fd} (f : PF F) (h1 : 1 ≤ F.length) (h2 : F.length ≤ 8) : GF F := by
  refine ⟨h1, h2, f.box, f.nd, fun a b c ha hab hbc hc => ?_⟩
  obtain ⟨x, rfl⟩ : ∃ n : Nat, a = n := ⟨a.toNat, by omega⟩
  obtain ⟨y, rfl⟩ : ∃ n : Nat, b = n := ⟨b.toNat, by omega⟩
  obtain ⟨z, rfl⟩ : ∃ n : Nat, c = n := ⟨c.toNat, by omega⟩
  exact f.free x y z _ _ _ (gI_some (by omega)) (gI_some (by omega)) (gI_some (by omega)) (by omega) (by omega)
theorem draw_ok' {q : Pen} {m : Int} (h : 0 < m ∧ m < 1073741824) : ok_law_draw q m := h
theorem wide_bd (q : Pen) : v_law_field_wide_3 q = 3 ∨ v_law_field_wide_3 q = 6 ∨ v_law_field_wide_3 q = 12 ∨ v_law_field_wide_3 q = 40 := by
  unfold v_law_field_wide_3 v_law_field_t1
  have := draw_bd (q := q) (m := 4) (by decide)
  generalize (v_law_draw q 4).1 = x at this
  have : x = 0 ∨ x = 1 ∨ x = 2 ∨ x = 3 := by omega
  rcases this with rfl | rfl | rfl | rfl
  · exact .inl rfl
  · exact .inr (.inl rfl)
  · exact .inr (.inr (.inl rfl))
  · exact .inr (.inr (.inr rfl))
theorem many_bd (q : Pen) {most : Int} (h : 1 ≤ most) : 1 ≤ v_law_field_many_5 q most ∧ v_law_field_many_5 q most ≤ most := by
  unfold v_law_field_many_5
  have h1 := draw_bd (q := (v_law_field_t1 q).2) (m := most) (by omega)
  have h2 := draw_bd (q := (v_law_field_t2 q most).2) (m := 2) (by decide)
  unfold v_law_field_t4
  have e : (v_law_draw (v_law_field_t1 q).2 most).1 = (v_law_field_t2 q most).1 := rfl
  rw [e] at h1
  generalize (v_law_draw (v_law_field_t2 q most).2 2).1 = x at h2
  have : x = 0 ∨ x = 1 := by omega
  rcases this with rfl | rfl
  · show 1 ≤ 1 + (v_law_field_t2 q most).1 ∧ 1 + (v_law_field_t2 q most).1 ≤ most
    omega
  · show 1 ≤ most ∧ most ≤ most
    omega
theorem place_box (q : Pen) (s : Fd × Pen) : inBox (v_law_field_j19 q s).1 ∧ ok_law_draw s.2 (v_law_field_wide_3 q + 1) ∧ ok_law_draw (v_law_field_t12 q s).2 (v_law_field_wide_3 q + 1) ∧ ok_law_draw (v_law_field_t13 q s).2 5 ∧ (eqB (v_law_field_t14 q s).1 0 = true → ok_law_draw (v_law_field_t14 q s).2 2 ∧ okIx [(0 : Int), v_law_field_wide_3 q] (v_law_field_t17 q s).1) := by
  have hw : 0 < v_law_field_wide_3 q ∧ v_law_field_wide_3 q ≤ 40 := by rcases wide_bd q with h | h | h | h <;> rw [h] <;> decide
  have h1 := draw_bd (q := s.2) (m := v_law_field_wide_3 q + 1) (by omega)
  have h2 := draw_bd (q := (v_law_field_t12 q s).2) (m := v_law_field_wide_3 q + 1) (by omega)
  have h3 := draw_bd (q := (v_law_field_t14 q s).2) (m := 2) (by decide)
  have e1 : (v_law_draw s.2 (v_law_field_wide_3 q + 1)).1 = (v_law_field_t12 q s).1 := rfl
  have e2 : (v_law_draw (v_law_field_t12 q s).2 (v_law_field_wide_3 q + 1)).1 = (v_law_field_t13 q s).1 := rfl
  have e3 : (v_law_draw (v_law_field_t14 q s).2 2).1 = (v_law_field_t17 q s).1 := rfl
  rw [e1] at h1
  rw [e2] at h2
  rw [e3] at h3
  refine ⟨?_, ⟨by omega, by omega⟩, ⟨by omega, by omega⟩, ⟨by decide, by decide⟩, fun _ => ⟨⟨by decide, by decide⟩, okI_of h3⟩⟩
  unfold v_law_field_j19
  split
  · unfold v_law_field_place_18
    have : (v_law_field_t17 q s).1 = 0 ∨ (v_law_field_t17 q s).1 = 1 := by omega
    have e : gI [(0 : Int), v_law_field_wide_3 q] (v_law_field_t17 q s).1 = 0 ∨ gI [(0 : Int), v_law_field_wide_3 q] (v_law_field_t17 q s).1 = v_law_field_wide_3 q := by
      rcases this with h | h <;> rw [h]
      · exact .inl rfl
      · exact .inr rfl
    refine ⟨⟨by show 0 ≤ (v_law_field_t12 q s).1; omega, by show (v_law_field_t12 q s).1 ≤ 40; omega⟩, ?_⟩
    show 0 ≤ gI [(0 : Int), v_law_field_wide_3 q] (v_law_field_t17 q s).1 ∧ gI [(0 : Int), v_law_field_wide_3 q] (v_law_field_t17 q s).1 ≤ 40
    rcases e with e | e <;> rw [e] <;> omega
  · exact ⟨⟨by show 0 ≤ (v_law_field_t12 q s).1; omega, by show (v_law_field_t12 q s).1 ≤ 40; omega⟩, by show 0 ≤ (v_law_field_t13 q s).1; omega, by show (v_law_field_t13 q s).1 ≤ 40; omega⟩
theorem field_turn (q : Pen) {most : Int} (h : 1 ≤ most ∧ most ≤ 8) (s : Fd × Pen) (x : Int) (f : PF s.1 ∧ (s.1.length : Int) ≤ most) :
    ok_law_field_b8 q most s x ∧ (PF (v_law_field_b8 q most s x).1 ∧ ((v_law_field_b8 q most s x).1.length : Int) ≤ most) ∧ (v_law_field_b8 q most s x).1 ≠ [] := by
  obtain ⟨hb, o1, o2, o3, o4⟩ := place_box q s
  have hm := many_bd q h.1
  have hl : s.1.length ≤ 8 := by omega
  refine ⟨?_, ?_⟩
  · unfold ok_law_field_b8
    refine ⟨o1, o2, o3, o4, fun _ => is_free_ok f.1.box (by omega), fun _ => lim_of ?_⟩
    show s.1.length + 1 ≤ 100000
    omega
  · unfold v_law_field_b8
    by_cases hc : (decide ((s.1.length : Int) < v_law_field_many_5 q most) && v_law_is_free s.1 (v_law_field_j19 q s).1) = true
    · rw [if_pos hc]
      rw [Bool.and_eq_true, decide_eq_true_iff] at hc
      refine ⟨⟨f.1.more hb ((is_free_iff _ _).mp hc.2), ?_⟩, by simp⟩
      show ((s.1 ++ [(v_law_field_j19 q s).1]).length : Int) ≤ most
      rw [List.length_append]
      simp
      omega
    · rw [if_neg hc]
      refine ⟨f, fun z => hc ?_⟩
      have z : s.1 = [] := z
      rw [Bool.and_eq_true, decide_eq_true_iff, is_free_iff, z]
      refine ⟨by simp; omega, by simp [Free]⟩
theorem field_good (q : Pen) {most : Int} (h : 1 ≤ most ∧ most ≤ 8) : ok_law_field q most ∧ GF (v_law_field q most).1 ∧ ((v_law_field q most).1.length : Int) ≤ most := by
  have hr : rgI 0 (3 * most) = 0 :: (rgI 0 (3 * most)).drop 1 := by
    unfold rgI
    obtain ⟨n, hn⟩ : ∃ n : Nat, (3 * most - 0).toNat = n + 1 := ⟨(3 * most).toNat - 1, by omega⟩
    rw [hn, List.range_succ_eq_map]
    rfl
  have key := fld_inv (step := v_law_field_b8 q most) (ok := ok_law_field_b8 q most) (fun s => PF s.1 ∧ (s.1.length : Int) ≤ most) (rgI 0 (3 * most)) ([], (v_law_field_t4 q most).2) ⟨PF.nil, by simp; omega⟩ (fun s hI x _ => by
    obtain ⟨a, b, _⟩ := field_turn q h s x hI
    exact ⟨a, b⟩)
  have ne : ((rgI 0 (3 * most)).foldl (v_law_field_b8 q most) ([], (v_law_field_t4 q most).2)).1 ≠ [] := by
    rw [hr, List.foldl_cons]
    have first := field_turn q h ([], (v_law_field_t4 q most).2) 0 ⟨PF.nil, by simp; omega⟩
    exact (fld_inv (step := v_law_field_b8 q most) (ok := ok_law_field_b8 q most) (fun s => (PF s.1 ∧ (s.1.length : Int) ≤ most) ∧ s.1 ≠ []) _ _ ⟨first.2.1, first.2.2⟩ (fun s hI x _ => by
      obtain ⟨a, b, c⟩ := field_turn q h s x hI.1
      exact ⟨a, b, c⟩)).2.2
  have e : (v_law_field q most).1 = ((rgI 0 (3 * most)).foldl (v_law_field_b8 q most) ([], (v_law_field_t4 q most).2)).1 := by
    unfold v_law_field v_law_field_l23; rfl
  rw [e]
  refine ⟨?_, key.2.1.gf ?_ ?_, key.2.2⟩
  · unfold ok_law_field
    have h1 := draw_bd (q := q) (m := 4) (by decide)
    have h2 := draw_bd (q := (v_law_field_t2 q most).2) (m := 2) (by decide)
    refine ⟨⟨by decide, by decide⟩, okI_of h1, ⟨by omega, by omega⟩, ⟨by decide, by decide⟩, okI_of h2, mulOk_l (by decide), ⟨by omega, by omega⟩, key.1⟩
  · cases hl : ((rgI 0 (3 * most)).foldl (v_law_field_b8 q most) ([], (v_law_field_t4 q most).2)).1 with
    | nil => exact (ne hl).elim
    | cons x l => simp
  · have := key.2.2
    omega
/-! ### drawn lots -/
theorem lot_sub : ∀ (xs : List Int) (q : Pen), (lcV v_law_lot_c7 xs q).1.Sublist xs ∧ lcOk v_law_lot_c7 ok_law_lot_c7 xs q
  | [], _ => ⟨List.Sublist.refl _, trivial⟩
  | x :: xs, q => by
    obtain ⟨h1, h2⟩ := lot_sub xs (v_law_lot_c7 x q).2
    refine ⟨?_, ⟨by decide, by decide⟩, h2⟩
    show ((v_law_lot_c7 x q).1 ++ (lcV v_law_lot_c7 xs (v_law_lot_c7 x q).2).1).Sublist (x :: xs)
    have : (v_law_lot_c7 x q).1 = [x] ∨ (v_law_lot_c7 x q).1 = [] := by
      unfold v_law_lot_c7
      split
      · exact .inl rfl
      · exact .inr rfl
    rcases this with e | e <;> rw [e]
    · exact h1.cons₂ x
    · exact h1.cons x
theorem GL.sub {n : Nat} {L M : List Int} (g : GL n L) (h : M.Sublist L) : GL n M := ⟨g.inc.sublist h, fun x hx => g.box x (h.subset hx)⟩
theorem lot_good (q : Pen) {F : Fd} (g : GF F) : ok_law_lot q F ∧ GL F.length (v_law_lot q F).1 := by
  have hf := g.few
  obtain ⟨h1, h2⟩ := lot_sub (rgI 0 F.length) q
  have h3 := draw_bd (q := (lcV v_law_lot_c7 (rgI 0 F.length) q).2) (m := 3) (by decide)
  have hl : (rgI 0 (F.length : Int)).length = F.length := by rw [rgI_len]; omega
  constructor
  · unfold ok_law_lot
    refine ⟨⟨by omega, by omega⟩, h2, lim_of (Nat.le_trans h1.length_le (by omega)), ⟨by decide, by decide⟩, okI_of h3⟩
  · unfold v_law_lot
    show GL F.length (gI _ (v_law_lot_t8 q F).1)
    have e : (v_law_lot_t8 q F).1 = (v_law_draw (lcV v_law_lot_c7 (rgI 0 F.length) q).2 3).1 := rfl
    rw [e]
    generalize (v_law_draw (lcV v_law_lot_c7 (rgI 0 F.length) q).2 3).1 = x at h3
    have : x = 0 ∨ x = 1 ∨ x = 2 := by omega
    rcases this with rfl | rfl | rfl
    · exact GL.every _
    · exact GL.every _
    · exact (GL.every _).sub h1
end Rs
end

section
set_option Elab.async false
set_option linter.all false
set_option maxRecDepth 100000
set_option maxHeartbeats 1000000
set_option autoImplicit false
/-! RsLaw2: threes of a lot, held stakes, corners, plainly. Own work. -/
namespace Rs
open PySem
/-! ### sublists -/
theorem sub_snoc {α : Type} {t l : List α} {x : α} : t.Sublist (l ++ [x]) ↔ t.Sublist l ∨ ∃ u, u.Sublist l ∧ t = u ++ [x] := by
  rw [List.sublist_append_iff]
  constructor
  · rintro ⟨a, b, rfl, h1, h2⟩
    have : b = [] ∨ b = [x] := by
      cases h2 with
      | cons _ h => exact .inl (List.sublist_nil.mp h)
      | cons_cons _ h => exact .inr (by rw [List.sublist_nil.mp h])
    rcases this with rfl | rfl
    · rw [List.append_nil]; exact .inl h1
    · exact .inr ⟨a, h1, rfl⟩
  · rintro (h | ⟨u, h, rfl⟩)
    · exact ⟨t, [], by simp, h, List.nil_sublist _⟩
    · exact ⟨u, [x], rfl, h, List.Sublist.refl _⟩
theorem sub_inc : ∀ {L t : List Int}, L.Pairwise (· < ·) → t.Pairwise (· < ·) → (∀ x ∈ t, x ∈ L) → t.Sublist L
  | _, [], _, _, _ => List.nil_sublist _
  | [], a :: t, _, _, h => (nomatch h a List.mem_cons_self)
  | y :: L, a :: t, hL, ht, h => by
    have hL' := List.pairwise_cons.mp hL
    have ht' := List.pairwise_cons.mp ht
    by_cases e : a = y
    · subst e
      refine List.Sublist.cons₂ a (sub_inc hL'.2 ht'.2 fun x hx => ?_)
      rcases List.mem_cons.mp (h x (List.mem_cons_of_mem _ hx)) with rfl | hm
      · have := ht'.1 x hx; omega
      · exact hm
    · refine List.Sublist.cons y (sub_inc hL'.2 ht fun x hx => ?_)
      rcases List.mem_cons.mp (h x hx) with rfl | hm
      · have ha : a ∈ L := by
          rcases List.mem_cons.mp (h a List.mem_cons_self) with e' | h'
          · exact (e e').elim
          · exact h'
        have h1 := hL'.1 a ha
        rcases List.mem_cons.mp hx with rfl | hx
        · omega
        · have := ht'.1 x hx; omega
      · exact hm
theorem inc_lt {t L : List Int} (h : t.Sublist L) (hL : L.Pairwise (· < ·)) : t.Pairwise (· < ·) := hL.sublist h
/-! ### all parts of at most k -/
def gstep (k : Nat) (s : List (List Int)) (x : Int) : List (List Int) := s ++ ((s.filter fun t => decide (t.length < k)).map fun t => t ++ [x])
theorem gstep_mem (k : Nat) : ∀ (L pre : List Int) (acc : List (List Int)), (∀ t, t ∈ acc ↔ t.Sublist pre ∧ t.length ≤ k) → ∀ t, t ∈ L.foldl (gstep k) acc ↔ t.Sublist (pre ++ L) ∧ t.length ≤ k
  | [], pre, acc, h, t => by rw [List.foldl_nil, List.append_nil]; exact h t
  | x :: L, pre, acc, h, t => by
    rw [List.foldl_cons, show pre ++ x :: L = (pre ++ [x]) ++ L by simp]
    refine gstep_mem k L (pre ++ [x]) (gstep k acc x) (fun u => ?_) t
    unfold gstep
    rw [List.mem_append, h u, sub_snoc, List.mem_map]
    constructor
    · rintro (⟨h1, h2⟩ | ⟨v, hv, rfl⟩)
      · exact ⟨.inl h1, h2⟩
      · have hv := List.mem_filter.mp hv
        have h3 := (h v).mp hv.1
        have h4 := of_decide_eq_true hv.2
        exact ⟨.inr ⟨v, h3.1, rfl⟩, by simp; omega⟩
    · rintro ⟨h1 | ⟨v, h1, rfl⟩, h2⟩
      · exact .inl ⟨h1, h2⟩
      · simp at h2
        exact .inr ⟨v, List.mem_filter.mpr ⟨(h v).mpr ⟨h1, by omega⟩, decide_eq_true (by omega)⟩, rfl⟩
/-- how many of each length -/
def cnt (s : List (List Int)) (k : Nat) : Nat := s.countP fun t => decide (t.length = k)
theorem cnt_step (k : Nat) (s : List (List Int)) (x : Int) (j : Nat) : cnt (gstep k s x) (j + 1) = cnt s (j + 1) + if j < k then cnt s j else 0 := by
  unfold cnt gstep
  rw [List.countP_append, List.countP_map, List.countP_filter]
  congr 1
  split
  · rename_i h
    refine List.countP_congr fun t _ => ?_
    simp
    omega
  · rename_i h
    rw [List.countP_eq_zero]
    intro t _
    simp
    omega
theorem cnt_step0 (k : Nat) (s : List (List Int)) (x : Int) : cnt (gstep k s x) 0 = cnt s 0 := by
  unfold cnt gstep
  rw [List.countP_append, List.countP_map]
  have : ((s.filter fun t => decide (t.length < k)).countP ((fun t => decide (t.length = 0)) ∘ fun t => t ++ [x])) = 0 := by
    rw [List.countP_eq_zero]
    intro t _
    simp
  rw [this, Nat.add_zero]
theorem len_step (k : Nat) (s : List (List Int)) (x : Int) : (gstep k s x).length ≤ 2 * s.length := by
  unfold gstep
  rw [List.length_append, List.length_map]
  have := List.length_filter_le (fun t => decide (t.length < k)) s
  omega
/-- numbers of parts -/
def chs : Nat → Nat → Nat
  | _, 0 => 1
  | 0, _ + 1 => 0
  | n + 1, j + 1 => chs n (j + 1) + chs n j
theorem cnt_fold (k : Nat) : ∀ (L : List Int) (n : Nat) (acc : List (List Int)), (∀ j, j ≤ k → cnt acc j = chs n j) → ∀ j, j ≤ k → cnt (L.foldl (gstep k) acc) j = chs (n + L.length) j
  | [], n, acc, h, j, hj => h j hj
  | x :: L, n, acc, h, j, hj => by
    rw [List.foldl_cons, cnt_fold k L (n + 1) (gstep k acc x) (fun i hi => ?_) j hj, List.length_cons, Nat.add_right_comm, Nat.add_assoc]
    cases i with
    | zero => rw [cnt_step0, h 0 (Nat.zero_le _)]; simp [chs]
    | succ i =>
      rw [cnt_step, h (i + 1) hi, if_pos (by omega), h i (by omega)]
      rfl
theorem cnt_start (k : Nat) : ∀ j, j ≤ k → cnt [([] : List Int)] j = chs 0 j := by
  intro j _
  cases j with
  | zero => rfl
  | succ j => rfl
theorem len_fold (k : Nat) : ∀ (L : List Int) (acc : List (List Int)), (L.foldl (gstep k) acc).length ≤ 2 ^ L.length * acc.length
  | [], acc => by simp
  | x :: L, acc => by
    rw [List.foldl_cons]
    have h1 := len_fold k L (gstep k acc x)
    have h2 := len_step k acc x
    rw [List.length_cons, Nat.pow_succ]
    have := Nat.mul_le_mul_left (2 ^ L.length) h2
    calc _ ≤ 2 ^ L.length * (gstep k acc x).length := h1
      _ ≤ 2 ^ L.length * (2 * acc.length) := this
      _ = _ := by rw [Nat.mul_assoc]
theorem start_mem (k : Nat) (t : List Int) : t ∈ [([] : List Int)] ↔ t.Sublist [] ∧ t.length ≤ k := by
  rw [List.mem_singleton, List.sublist_nil]
  constructor
  · rintro rfl; exact ⟨rfl, Nat.zero_le _⟩
  · exact fun h => h.1
theorem pow_le8 {n : Nat} (h : n ≤ 8) : 2 ^ n ≤ 256 := by
  calc 2 ^ n ≤ 2 ^ 8 := Nat.pow_le_pow_right (by decide) h
    _ = 256 := by decide
/-! ### threes -/
theorem threes_step (s : List (List Int)) (L : List Int) : v_law_threes_b2 L s = gstep 3 s := by
  funext x
  unfold v_law_threes_b2 v_law_threes_found_9 gstep
  congr 2
  refine List.filter_congr fun t _ => ?_
  congr 1
  exact propext ⟨fun h => by omega, fun h => by omega⟩
theorem threes_fold (L : List Int) : v_law_threes_l11 L = L.foldl (gstep 3) [[]] := by
  unfold v_law_threes_l11
  have : v_law_threes_b2 L = gstep 3 := by funext s; exact threes_step s L
  rw [this]
def inc3 (L : List Int) (t : List Int) : Prop := ∃ a ∈ L, ∃ b ∈ L, ∃ c ∈ L, a < b ∧ b < c ∧ t = [a, b, c]
theorem sub3 {L t : List Int} (hL : L.Pairwise (· < ·)) : (t.Sublist L ∧ t.length = 3) ↔ inc3 L t := by
  constructor
  · rintro ⟨h1, h2⟩
    match t, h2 with
    | [a, b, c], _ =>
      have := inc_lt h1 hL
      simp at this
      exact ⟨a, h1.subset (by simp), b, h1.subset (by simp), c, h1.subset (by simp), this.1.1, this.2, rfl⟩
  · rintro ⟨a, ha, b, hb, c, hc, h1, h2, rfl⟩
    refine ⟨sub_inc hL ?_ ?_, rfl⟩
    · simp; omega
    · intro x hx
      simp at hx
      rcases hx with rfl | rfl | rfl <;> assumption
theorem mem_threes {L : List Int} (hL : L.Pairwise (· < ·)) (t : List Int) : t ∈ v_law_threes L ↔ inc3 L t := by
  unfold v_law_threes
  rw [(sortT_perm _).mem_iff, List.mem_filter, threes_fold, gstep_mem 3 L [] [[]] (start_mem 3), List.nil_append, eqB_iff, ← sub3 hL]
  constructor
  · rintro ⟨⟨h1, _⟩, h2⟩; exact ⟨h1, by omega⟩
  · rintro ⟨h1, h2⟩; exact ⟨⟨h1, by omega⟩, by omega⟩
theorem threes_len {L : List Int} (hl : L.length ≤ 8) : ((v_law_threes_l11 L).filter fun t => eqB (t.length : Int) 3).length ≤ 56 := by
  rw [threes_fold, ← List.countP_eq_length_filter]
  have e : ((L.foldl (gstep 3) [[]]).countP fun t => eqB (t.length : Int) 3) = cnt (L.foldl (gstep 3) [[]]) 3 := by
    unfold cnt
    refine List.countP_congr fun t _ => ?_
    rw [eqB_iff, decide_eq_true_iff]
    omega
  rw [e, cnt_fold 3 L 0 [[]] (cnt_start 3) 3 (Nat.le_refl _), Nat.zero_add]
  have : ∀ n, n ≤ 8 → chs n 3 ≤ 56 := by decide
  exact this _ hl
theorem law_threes_len {L : List Int} (hl : L.length ≤ 8) : (v_law_threes L).length ≤ 56 := by
  unfold v_law_threes
  rw [(sortT_perm _).length_eq]
  exact threes_len hl
theorem sameT_of3 {n : Nat} (hn : n ≤ 1000) : ∀ ts : List (List Int), (∀ t ∈ ts, t.length = 3 ∧ ∀ x ∈ t, 0 ≤ x ∧ x < n) → sameT ts = true
  | [], _ => rfl
  | t :: ts, h => by
    unfold sameT
    rw [Bool.and_eq_true, List.all_eq_true]
    have ht := h t List.mem_cons_self
    refine ⟨?_, fun u hu => ?_⟩
    · cases t with
      | nil => simp at ht
      | cons x r => rfl
    · rw [Bool.and_eq_true, List.all_eq_true]
      have hu := h u hu
      refine ⟨by rw [hu.1, ht.1]; rfl, fun m hm => ?_⟩
      have := hu.2 m hm
      rw [Bool.and_eq_true]
      exact ⟨decide_eq_true this.1, decide_eq_true (by unfold SB; omega)⟩
theorem threes_ok {n : Nat} (hn : n ≤ 8) {L : List Int} (gl : GL n L) : ok_law_threes L := by
  have hl : L.length ≤ 8 := Nat.le_trans gl.len hn
  have hp := pow_le8 hl
  unfold ok_law_threes
  refine ⟨?_, ?_, ?_, ?_⟩
  · have : ∀ (M : List Int) (acc : List (List Int)), (∀ t ∈ acc, t.length ≤ 3) → 2 ^ M.length * acc.length ≤ 256 → fldOk (v_law_threes_b2 L) (ok_law_threes_b2 L) M acc := by
      intro M
      induction M with
      | nil => exact fun _ _ _ => trivial
      | cons x M ih =>
        intro acc h1 h2
        have h3 := len_step 3 acc x
        rw [List.length_cons, Nat.pow_succ, Nat.mul_assoc] at h2
        have h4 := Nat.mul_le_mul_left (2 ^ M.length) h3
        have h5 : 2 * acc.length ≤ 256 := Nat.le_trans (Nat.le_mul_of_pos_left _ (Nat.pow_pos (by decide))) h2
        refine ⟨?_, ?_⟩
        · unfold ok_law_threes_b2
          refine ⟨fun t ht _ => lim_of ?_, lim_of (by omega), lim_of ?_⟩
          · have := h1 t ht
            show t.length + 1 ≤ 100000
            omega
          · rw [List.length_map]
            have := List.length_filter_le (fun t : List Int => decide ((t.length : Int) < 3)) acc
            omega
        · rw [threes_step]
          refine ih _ (fun t ht => ?_) (Nat.le_trans h4 h2)
          unfold gstep at ht
          rcases List.mem_append.mp ht with ht | ht
          · exact h1 t ht
          · obtain ⟨u, hu, rfl⟩ := List.mem_map.mp ht
            have := of_decide_eq_true (List.mem_filter.mp hu).2
            simp
            omega
    exact this L [[]] (fun t ht => by rw [List.mem_singleton.mp ht]; decide) (by simpa using hp)
  · rw [threes_fold]
    have := len_fold 3 L [[]]
    exact lim_of (by simp at this; omega)
  · have := threes_len hl; omega
  · refine sameT_of3 (n := n) (by omega) _ fun t ht => ?_
    have ht := List.mem_filter.mp ht
    rw [threes_fold, gstep_mem 3 L [] [[]] (start_mem 3), List.nil_append] at ht
    have h2 := ht.2
    rw [eqB_iff] at h2
    exact ⟨by omega, fun x hx => gl.box x (ht.1.1.subset hx)⟩
/-! ### held stakes -/
def Abt (F : Fd) (a b c s : Int) : Prop := (0 < tb F a b s ∧ 0 < tb F b c s ∧ 0 < tb F c a s) ∨ (tb F a b s < 0 ∧ tb F b c s < 0 ∧ tb F c a s < 0)
theorem are_about_iff (F : Fd) (a b c s : Int) : v_law_are_about F [a, b, c] s = true ↔ Abt F a b c s := by
  unfold v_law_are_about
  have e : v_law_are_about_turns_2 F [a, b, c] s = [v_side F a b s, v_side F b c s, v_side F c a s] := by
    unfold v_law_are_about_turns_2
    rw [law_side_eq]
    rfl
  rw [e]
  have key : memB [v_side F a b s, v_side F b c s, v_side F c a s] [[(1 : Int), 1, 1], [-1, -1, -1]] = true ↔ Abt F a b c s := by
    rw [memB_iff]
    simp only [List.mem_cons, List.cons.injEq, and_true, List.not_mem_nil, or_false, side_pos, side_neg]
    rfl
  by_cases hs : s ∈ [a, b, c]
  · rw [if_pos (by simpa using hs)]
    refine ⟨fun h => (nomatch h), fun h => ?_⟩
    exfalso
    simp at hs
    rcases hs with rfl | rfl | rfl
    · rcases h with h | h
      · have := h.1; rw [tb_3] at this; omega
      · have := h.1; rw [tb_3] at this; omega
    · rcases h with h | h
      · have := h.1; rw [tb_2] at this; omega
      · have := h.1; rw [tb_2] at this; omega
    · rcases h with h | h
      · have := h.2.1; rw [tb_2] at this; omega
      · have := h.2.1; rw [tb_2] at this; omega
  · rw [if_neg (by simpa using hs)]
    exact key
theorem abt_surr {F : Fd} {L : List Int} {s : Int} : (∃ t, inc3 L t ∧ ∃ a b c, t = [a, b, c] ∧ Abt F a b c s) ↔ Surr F L s := by
  constructor
  · rintro ⟨_, ⟨a, ha, b, hb, c, hc, h1, h2, rfl⟩, a', b', c', e, h⟩
    cases e
    rcases h with ⟨x, y, z⟩ | ⟨x, y, z⟩
    · rw [tb_rot, tb_rot] at x y z
      exact ⟨a, ha, b, hb, c, hc, x, y, z⟩
    · rw [tb_rot, tb_rot, tb_anti2] at x y z
      exact ⟨a, ha, c, hc, b, hb, by omega, by omega, by omega⟩
  · rintro ⟨a, ha, b, hb, c, hc, x, y, z⟩
    have ab : a ≠ b := fun w => by rw [w, tb_2] at x; omega
    have bc : b ≠ c := fun w => by rw [w, tb_2] at y; omega
    have ca : c ≠ a := fun w => by rw [w, tb_2] at z; omega
    have x' := tb_anti2 F s a b
    have y' := tb_anti2 F s b c
    have z' := tb_anti2 F s c a
    have r : ∀ u v, tb F u v s = tb F s u v := fun u v => by rw [tb_rot, tb_rot]
    rcases Int.lt_or_gt_of_ne ab with h1 | h1 <;> rcases Int.lt_or_gt_of_ne bc with h2 | h2 <;> rcases Int.lt_or_gt_of_ne ca with h3 | h3
    · omega
    · exact ⟨_, ⟨a, ha, b, hb, c, hc, h1, h2, rfl⟩, a, b, c, rfl, .inl ⟨by rw [r]; omega, by rw [r]; omega, by rw [r]; omega⟩⟩
    · exact ⟨_, ⟨c, hc, a, ha, b, hb, h3, h1, rfl⟩, c, a, b, rfl, .inl ⟨by rw [r]; omega, by rw [r]; omega, by rw [r]; omega⟩⟩
    · exact ⟨_, ⟨a, ha, c, hc, b, hb, h3, h2, rfl⟩, a, c, b, rfl, .inr ⟨by rw [r]; omega, by rw [r]; omega, by rw [r]; omega⟩⟩
    · exact ⟨_, ⟨b, hb, c, hc, a, ha, h2, h3, rfl⟩, b, c, a, rfl, .inl ⟨by rw [r]; omega, by rw [r]; omega, by rw [r]; omega⟩⟩
    · exact ⟨_, ⟨b, hb, a, ha, c, hc, h1, h3, rfl⟩, b, a, c, rfl, .inr ⟨by rw [r]; omega, by rw [r]; omega, by rw [r]; omega⟩⟩
    · exact ⟨_, ⟨c, hc, b, hb, a, ha, h2, h1, rfl⟩, c, b, a, rfl, .inr ⟨by rw [r]; omega, by rw [r]; omega, by rw [r]; omega⟩⟩
    · omega
theorem is_held_iff {F : Fd} {L : List Int} (hL : L.Pairwise (· < ·)) (s : Int) : v_law_is_held F L s = true ↔ Surr F L s := by
  unfold v_law_is_held
  rw [← abt_surr]
  have e : (!eqB (((v_law_threes L).filter fun t => v_law_are_about F t s).map fun _ => (1 : Int)) []) = true ↔ ∃ t ∈ v_law_threes L, v_law_are_about F t s = true := by
    cases h : (v_law_threes L).filter fun t => v_law_are_about F t s with
    | nil =>
      refine ⟨fun z => by simp [eqB] at z, fun ⟨t, h1, h2⟩ => ?_⟩
      have := List.filter_eq_nil_iff.mp h t h1
      exact (this h2).elim
    | cons t r =>
      have := List.mem_filter.mp (show t ∈ (v_law_threes L).filter fun t => v_law_are_about F t s by rw [h]; exact List.mem_cons_self)
      exact ⟨fun _ => ⟨t, this.1, this.2⟩, fun _ => by simp [eqB]⟩
  rw [e]
  constructor
  · rintro ⟨t, h1, h2⟩
    have h3 := (mem_threes hL t).mp h1
    have h3c := h3
    obtain ⟨a, _, b, _, c, _, _, _, rfl⟩ := h3c
    exact ⟨_, h3, a, b, c, rfl, (are_about_iff F a b c s).mp h2⟩
  · rintro ⟨t, h1, a, b, c, rfl, h2⟩
    exact ⟨_, (mem_threes hL _).mpr h1, (are_about_iff F a b c s).mpr h2⟩
theorem is_held_ok {F : Fd} (g : GF F) {L : List Int} (gl : GL F.length L) {s : Int} (hs : rg F s) : ok_law_is_held F L s := by
  unfold ok_law_is_held
  have hl : L.length ≤ 8 := Nat.le_trans gl.len g.few
  refine ⟨threes_ok g.few gl, fun t ht => ?_, lim_of (Nat.le_trans (law_threes_len hl) (by decide))⟩
  obtain ⟨a, ha, b, hb, c, hc, _, _, rfl⟩ := (mem_threes gl.inc t).mp ht
  unfold ok_law_are_about
  intro _
  rw [law_side_ok]
  exact ⟨rfl, side_ok g (gl.rg ha) (gl.rg hb) hs, side_ok g (gl.rg hb) (gl.rg hc) hs, side_ok g (gl.rg hc) (gl.rg ha) hs⟩
theorem held_corner {F : Fd} (g : GF F) {L : List Int} (gl : GL F.length L) {s : Int} (hs : rg F s) : v_law_is_held F L s = !v_is_corner F L s := by
  have h1 := is_held_iff (F := F) gl.inc s
  have h2 := is_corner_iff g gl hs
  cases hh : v_law_is_held F L s <;> cases hc : v_is_corner F L s <;> simp_all
theorem law_corners_eq {F : Fd} (g : GF F) {L : List Int} (gl : GL F.length L) : v_law_corners F L = v_corners F L := by
  rw [corners_eq]
  unfold v_law_corners
  refine List.filter_congr fun s hs => ?_
  rw [held_corner g gl (gl.rg hs), Bool.not_not]
theorem law_corners_ok {F : Fd} (g : GF F) {L : List Int} (gl : GL F.length L) : ok_law_corners F L := by
  unfold ok_law_corners
  exact ⟨fun s hs => is_held_ok g gl (gl.rg hs), lim_of (Nat.le_trans gl.len (Nat.le_trans g.few (by decide)))⟩
end Rs
end

section
set_option Elab.async false
set_option linter.all false
set_option maxRecDepth 100000
set_option maxHeartbeats 1000000
set_option autoImplicit false
/-! RsProg1: the program's defs on good fields and lots: what is refused, corners, ropes. Own work. -/
namespace Rs
open PySem
theorem whole_true (x : Int) : v_is_whole x = true := by unfold v_is_whole; rfl
theorem whole_ok (x : Int) : ok_is_whole x := by unfold ok_is_whole; trivial
theorem among_eq (x a b : Int) : v_is_among x a b = (decide (a ≤ x) && decide (x ≤ b)) := by unfold v_is_among; rw [whole_true]; rfl
theorem among_ok (x a b : Int) : ok_is_among x a b := by unfold ok_is_among; exact whole_ok x
theorem place_iff (p : Int × Int) : v_is_place p = true ↔ inBox p := by
  unfold v_is_place v_are_someA inBox
  simp [among_eq]
theorem place_ok (p : Int × Int) : ok_is_place p := by
  unfold ok_is_place ok_are_someA
  exact ⟨trivial, fun _ => ⟨fun x _ => among_ok x 0 40, lim_of (show 2 ≤ 100000 by decide)⟩⟩
theorem mem_threes_p {n : Int} {t : Int × Int × Int} : t ∈ v_threes n ↔ 0 ≤ t.1 ∧ t.1 < t.2.1 ∧ t.2.1 < t.2.2 ∧ t.2.2 < n := by
  unfold v_threes
  simp only [List.mem_flatMap, rgI_mem, List.mem_singleton]
  constructor
  · rintro ⟨a, ha, b, hb, c, hc, rfl⟩
    exact ⟨ha.1, show a < b by omega, show b < c by omega, hc.2⟩
  · rintro ⟨h1, h2, h3, h4⟩
    exact ⟨t.1, ⟨h1, by omega⟩, t.2.1, ⟨by omega, by omega⟩, t.2.2, ⟨by omega, h4⟩, rfl⟩
theorem threes_len_p : ∀ n : Nat, n ≤ 8 → (v_threes (n : Int)).length ≤ 56 := by
  intro n hn
  have : ∀ n : Nat, n ≤ 8 → ((rgI 0 (n : Int)).flatMap fun x1 => (rgI (x1 + 1) n).flatMap fun x3 => (rgI (x3 + 1) n).flatMap fun x5 => [(x1, x3, x5)]).length ≤ 56 := by decide +kernel
  unfold v_threes
  exact this n hn
theorem threes_ok_p {n : Nat} (hn : n ≤ 8) : ok_threes (n : Int) := by
  have h := threes_len_p n hn
  unfold v_threes at h
  unfold ok_threes
  refine ⟨⟨by omega, by omega⟩, fun x hx => ?_, lim_of (Nat.le_trans h (by decide))⟩
  have hx := rgI_mem.mp hx
  refine ⟨⟨by omega, by omega⟩, ⟨by omega, by omega⟩, fun y hy => ?_⟩
  have hy := rgI_mem.mp hy
  exact ⟨⟨by omega, by omega⟩, ⟨by omega, by omega⟩⟩
theorem distV_eq {α : Type} [DecidableEq α] : ∀ {l : List α}, l.Nodup → distV l = l.length
  | [], _ => rfl
  | x :: r, h => by
    have h := List.nodup_cons.mp h
    unfold distV
    rw [if_neg h.1, distV_eq h.2, List.length_cons]
theorem distV_le {α : Type} [DecidableEq α] : ∀ (l : List α), distV l ≤ l.length
  | [] => Nat.le_refl _
  | x :: r => by
    have := distV_le r
    unfold distV
    rw [List.length_cons]
    split <;> omega
theorem distV_nd {α : Type} [DecidableEq α] : ∀ {l : List α}, distV l = l.length → l.Nodup
  | [], _ => List.nodup_nil
  | x :: r, h => by
    have h2 := distV_le r
    unfold distV at h
    rw [List.length_cons] at h
    split at h
    · omega
    · rename_i hx
      exact List.nodup_cons.mpr ⟨hx, distV_nd (by omega)⟩
theorem is_field_iff (F : Fd) : v_is_field F = true ↔ GF F := by
  unfold v_is_field v_are_some
  have hp : (F.all fun p => v_is_place p) = true ↔ ∀ p ∈ F, inBox p := by
    rw [List.all_eq_true]
    exact ⟨fun h p hp => (place_iff p).mp (h p hp), fun h p hp => (place_iff p).mpr (h p hp)⟩
  have ht : ((v_threes (F.length : Int)).all fun x => !eqB (v_bend (gI F x.1) (gI F x.2.1) (gI F x.2.2)) 0) = true ↔ ∀ a b c : Int, 0 ≤ a → a < b → b < c → c < F.length → tb F a b c ≠ 0 := by
    rw [List.all_eq_true]
    constructor
    · intro h a b c h1 h2 h3 h4
      have := h (a, b, c) (mem_threes_p.mpr ⟨h1, h2, h3, h4⟩)
      simpa [tb] using this
    · intro h x hx
      have hx := mem_threes_p.mp hx
      have := h x.1 x.2.1 x.2.2 hx.1 hx.2.1 hx.2.2.1 hx.2.2.2
      simpa [tb] using this
  by_cases h1 : 1 ≤ F.length ∧ F.length ≤ 8
  · by_cases h2 : ∀ p ∈ F, inBox p
    · have e : (!(true && (decide ((1 : Int) ≤ (F.length : Int)) && decide ((F.length : Int) ≤ 8))) || !F.all fun p => v_is_place p) = false := by
        rw [hp.mpr h2]
        simp
        omega
      rw [e, if_neg Bool.false_ne_true]
      by_cases h3 : F.Nodup
      · rw [if_neg (by rw [distV_eq h3]; simp)]
        rw [ht]
        exact ⟨fun h => ⟨h1.1, h1.2, h2, h3, h⟩, fun h => h.free⟩
      · rw [if_pos (by
          have a := distV_le F
          have b : distV F ≠ F.length := fun z => h3 (distV_nd z)
          simp
          omega)]
        exact ⟨fun h => (nomatch h), fun h => (h3 h.nd).elim⟩
    · have e : (F.all fun p => v_is_place p) = false := by
        cases h : F.all fun p => v_is_place p with
        | false => rfl
        | true => exact (h2 (hp.mp h)).elim
      rw [e, if_pos (by simp)]
      exact ⟨fun h => (nomatch h), fun h => (h2 h.box).elim⟩
  · rw [if_pos (by simp; omega)]
    exact ⟨fun h => (nomatch h), fun h => (h1 ⟨h.pos, h.few⟩).elim⟩
/-- a tuple of places that are not too far -/
theorem is_field_ok {F : Fd} (h : ∀ p ∈ F, inBox p) (hl : F.length ≤ 59) : ok_is_field F := by
  unfold ok_is_field
  refine ⟨by unfold ok_are_some; trivial, fun _ => ⟨fun p _ => place_ok p, lim_of (by omega)⟩, fun h0 => ⟨by omega, fun _ => ?_⟩⟩
  have h8 : F.length ≤ 8 := by
    unfold v_are_some at h0
    simp at h0
    omega
  refine ⟨threes_ok_p h8, fun x hx => ?_, lim_of (Nat.le_trans (threes_len_p _ h8) (by decide))⟩
  have hx := mem_threes_p.mp hx
  exact ⟨okI_of ⟨by omega, by omega⟩, okI_of ⟨by omega, by omega⟩, okI_of ⟨by omega, by omega⟩, bend_ok (h _ (gI_mem ⟨by omega, by omega⟩)) (h _ (gI_mem ⟨by omega, by omega⟩))⟩
theorem need_field_ok {F : Fd} (g : GF F) : ok_need_field F := by
  unfold ok_need_field
  refine ⟨is_field_ok g.box (Nat.le_trans g.few (by decide)), ?_⟩
  rw [(is_field_iff F).mpr g]
  rfl
theorem zip_inc : ∀ (L : List Int), L.Pairwise (· < ·) → ∀ x ∈ L.zip (L.drop 1), x.1 < x.2
  | [], _, x, hx => by simp at hx
  | [a], _, x, hx => by simp at hx
  | a :: b :: L, h, x, hx => by
    have h3 := List.pairwise_cons.mp h
    have hx : x = (a, b) ∨ x ∈ (b :: L).zip ((b :: L).drop 1) := by
      have : (a :: b :: L).zip ((a :: b :: L).drop 1) = (a, b) :: (b :: L).zip ((b :: L).drop 1) := rfl
      rw [this] at hx
      exact List.mem_cons.mp hx
    rcases hx with rfl | hx
    · exact h3.1 b List.mem_cons_self
    · exact zip_inc (b :: L) h3.2 x hx
theorem inc_zip : ∀ (L : List Int), (∀ x ∈ L.zip (L.drop 1), x.1 < x.2) → L.Pairwise (· < ·)
  | [], _ => List.Pairwise.nil
  | [a], _ => List.pairwise_singleton _ _
  | a :: b :: L, h => by
    have e : (a :: b :: L).zip ((a :: b :: L).drop 1) = (a, b) :: (b :: L).zip ((b :: L).drop 1) := rfl
    rw [e] at h
    have ih := inc_zip (b :: L) fun x hx => h x (List.mem_cons_of_mem _ hx)
    have hab : a < b := h (a, b) List.mem_cons_self
    refine List.pairwise_cons.mpr ⟨fun x hx => ?_, ih⟩
    rcases List.mem_cons.mp hx with rfl | hx
    · exact hab
    · have := (List.pairwise_cons.mp ih).1 x hx; omega
theorem are_numbers_iff (L : List Int) (n : Nat) : v_are_numbers L (n : Int) = true ↔ GL n L := by
  unfold v_are_numbers
  have h1 : (L.all fun x => v_is_among x 0 ((n : Int) - 1)) = true ↔ ∀ x ∈ L, 0 ≤ x ∧ x < n := by
    rw [List.all_eq_true]
    constructor
    · intro h x hx
      have := h x hx
      rw [among_eq] at this
      simp at this
      omega
    · intro h x hx
      have := h x hx
      rw [among_eq]
      simp
      omega
  have h2 : ((L.zip (cut L (some 1) none)).all fun x => decide (x.1 < x.2)) = true ↔ L.Pairwise (· < ·) := by
    have e := cut_drop L 1
    rw [show cut L (some (1 : Int)) none = L.drop 1 from e, List.all_eq_true]
    constructor
    · exact fun h => inc_zip L fun x hx => of_decide_eq_true (h x hx)
    · exact fun h x hx => decide_eq_true (zip_inc L h x hx)
  by_cases hb : ∀ x ∈ L, 0 ≤ x ∧ x < n
  · rw [if_neg (by rw [h1.mpr hb]; simp), h2]
    exact ⟨fun h => ⟨h, hb⟩, fun h => h.inc⟩
  · have e : (L.all fun x => v_is_among x 0 ((n : Int) - 1)) = false := by
      cases h : L.all fun x => v_is_among x 0 ((n : Int) - 1) with
      | false => rfl
      | true => exact (hb (h1.mp h)).elim
    rw [if_pos (by rw [e]; simp)]
    exact ⟨fun h => (nomatch h), fun h => (hb h.box).elim⟩
theorem are_numbers_ok {L : List Int} (h : L.length ≤ 100000) (n : Int) : ok_are_numbers L n := by
  unfold ok_are_numbers
  refine ⟨fun _ => ⟨fun x _ => among_ok x 0 (n - 1), lim_of h⟩, fun _ => lim_of ?_⟩
  rw [List.length_zip]
  omega
theorem is_lot_iff (F : Fd) (L : List Int) : v_is_lot F L = true ↔ GL F.length L := by unfold v_is_lot; exact are_numbers_iff L F.length
theorem lot_le {F : Fd} (g : GF F) {L : List Int} (gl : GL F.length L) : L.length ≤ 8 := Nat.le_trans gl.len g.few
theorem need_lot_ok {F : Fd} (g : GF F) {L : List Int} (gl : GL F.length L) : ok_need_lot F L := by
  have hl := lot_le g gl
  unfold ok_need_lot
  refine ⟨by unfold ok_is_lot; exact ⟨need_field_ok g, are_numbers_ok (by omega) _⟩, ?_⟩
  rw [(is_lot_iff F L).mpr gl]
  rfl
theorem need_stake_ok {L : List Int} {s : Int} (h : s ∈ L) : ok_need_stake L s := by
  unfold ok_need_stake
  refine ⟨whole_ok s, ?_⟩
  rw [whole_true, memB_iff.mpr h]
  rfl
theorem need_stakeA_ok {L : List Int} {s : Int} (h : s ∈ L) : ok_need_stakeA L s := by
  unfold ok_need_stakeA
  refine ⟨whole_ok s, ?_⟩
  rw [whole_true, memB_iff.mpr h]
  rfl
theorem less_eq (L : List Int) (s : Int) : v_less L s = L.filter fun x => decide (x ≠ s) := by
  unfold v_less
  refine List.filter_congr fun x _ => ?_
  by_cases h : x = s <;> simp [h, eqB]
theorem mem_less {L : List Int} {s x : Int} : x ∈ v_less L s ↔ x ∈ L ∧ x ≠ s := by
  rw [less_eq, List.mem_filter, decide_eq_true_iff]
theorem GL.less {n : Nat} {L : List Int} (g : GL n L) (s : Int) : GL n (v_less L s) := by rw [less_eq]; exact g.filter _
theorem less_ok {L : List Int} (h : L.length ≤ 100000) (s : Int) : ok_less L s := by unfold ok_less; exact lim_of h
/-! ### corners -/
section
variable {F : Fd} {L : List Int}
theorem onward_ok (g : GF F) (gl : GL F.length L) {s : Int} (hs : rg F s) : ok_onward F L s := by
  have hl := lot_le g gl
  unfold ok_onward
  have key : ∀ (M : List Int) (acc : List Int), (∀ x ∈ M, x ∈ L) → acc.length + M.length ≤ 100 → fldOk (v_onward_b3 F L s) (ok_onward_b3 F L s) M acc := by
    intro M
    induction M with
    | nil => exact fun _ _ _ => trivial
    | cons x M ih =>
      intro acc h1 h2
      rw [List.length_cons] at h2
      have hx := h1 x List.mem_cons_self
      refine ⟨?_, ih _ (fun y hy => h1 y (List.mem_cons_of_mem _ hy)) ?_⟩
      · unfold ok_onward_b3
        refine ⟨lim_of (by omega), fun _ => ⟨fun y hy => side_ok g hs (gl.rg hx) (gl.rg (List.mem_filter.mp hy).1), lim_of (Nat.le_trans (List.length_filter_le _ _) (by omega))⟩, fun _ => ?_⟩
        show acc.length < 100000
        omega
      · unfold v_onward_b3
        split
        · rw [List.length_append]; simp; omega
        · omega
  exact key L [] (fun _ h => h) (by simp; omega)
theorem is_corner_ok (g : GF F) (gl : GL F.length L) {s : Int} (hs : rg F s) : ok_is_corner F L s := by
  unfold ok_is_corner
  exact fun _ => onward_ok g gl hs
theorem corners_ok (g : GF F) (gl : GL F.length L) : ok_corners F L := by
  unfold ok_corners
  exact ⟨fun s hs => is_corner_ok g gl (gl.rg hs), lim_of (Nat.le_trans (lot_le g gl) (by decide))⟩
end
end Rs
end

section
set_option Elab.async false
set_option linter.all false
set_option maxRecDepth 100000
set_option maxHeartbeats 1000000
set_option autoImplicit false
/-! RsRope: the way round the corners. Own work. -/
namespace Rs
open PySem
theorem nd_len : ∀ {l m : List Int}, l.Nodup → (∀ x ∈ l, x ∈ m) → l.length ≤ m.length
  | [], _, _, _ => Nat.zero_le _
  | x :: l, m, hn, h => by
    have hn := List.nodup_cons.mp hn
    have hx := h x List.mem_cons_self
    have ih := nd_len (l := l) (m := m.erase x) hn.2 fun y hy => by
      refine (List.mem_erase_of_ne fun z => ?_).mpr (h y (List.mem_cons_of_mem _ hy))
      rw [z] at hy
      exact hn.1 hy
    rw [List.length_erase_of_mem hx] at ih
    have : 1 ≤ m.length := List.length_pos_of_mem hx
    rw [List.length_cons]
    omega
/-- the n-th one on the way from c -/
def itr (F : Fd) (L : List Int) (c : Int) : Nat → Int
  | 0 => c
  | n + 1 => gI (v_onward F L (itr F L c n)) 0
def orb (F : Fd) (L : List Int) (c : Int) (n : Nat) : List Int := (List.range n).map (itr F L c)
theorem orb_succ (F : Fd) (L : List Int) (c : Int) (n : Nat) : orb F L c (n + 1) = orb F L c n ++ [itr F L c n] := by
  unfold orb; rw [List.range_succ, List.map_append]; rfl
theorem orb_len (F : Fd) (L : List Int) (c : Int) (n : Nat) : (orb F L c n).length = n := by unfold orb; rw [List.length_map, List.length_range]
theorem orb_mem {F : Fd} {L : List Int} {c x : Int} {n : Nat} : x ∈ orb F L c n ↔ ∃ i, i < n ∧ itr F L c i = x := by
  unfold orb
  rw [List.mem_map]
  constructor
  · rintro ⟨i, hi, rfl⟩; exact ⟨i, List.mem_range.mp hi, rfl⟩
  · rintro ⟨i, hi, rfl⟩; exact ⟨i, List.mem_range.mpr hi, rfl⟩
/-- c is a corner of L, and not alone -/
structure Cn (F : Fd) (L : List Int) (c : Int) : Prop where
  g : GF F
  gl : GL F.length L
  mem : c ∈ L
  cor : ¬ Surr F L c
  two : 2 ≤ L.length
section
variable {F : Fd} {L : List Int} {c : Int}
theorem other_of (hn : L.Nodup) (h : 2 ≤ L.length) (s : Int) : ∃ x ∈ L, x ≠ s := by
  match L, hn, h with
  | x :: y :: r, hn, _ =>
    by_cases hx : x = s
    · refine ⟨y, by simp, fun z => ?_⟩
      have := (List.nodup_cons.mp hn).1
      rw [hx, ← z] at this
      exact this List.mem_cons_self
    · exact ⟨x, List.mem_cons_self, hx⟩
theorem Cn.step (k : Cn F L c) : ∀ n, itr F L c n ∈ L ∧ Onw F L (itr F L c n) (itr F L c (n + 1))
  | 0 => by
    obtain ⟨t, ht⟩ := onw_of k.g (fun x hx => k.gl.rg hx) (k.gl.rg k.mem) (other_of k.gl.nodup k.two c) k.cor
    refine ⟨k.mem, ?_⟩
    show Onw F L c (gI (v_onward F L c) 0)
    rw [onward_get k.gl.nodup ht]
    exact ht
  | n + 1 => by
    obtain ⟨h1, h2⟩ := Cn.step k n
    obtain ⟨u, hu⟩ := h2.next k.g (fun x hx => k.gl.rg hx) h1
    refine ⟨h2.1, ?_⟩
    show Onw F L (itr F L c (n + 1)) (gI (v_onward F L (itr F L c (n + 1))) 0)
    rw [onward_get k.gl.nodup hu]
    exact hu
theorem Cn.mem' (k : Cn F L c) (n : Nat) : itr F L c n ∈ L := (k.step n).1
theorem Cn.onw (k : Cn F L c) (n : Nat) : Onw F L (itr F L c n) (itr F L c (n + 1)) := (k.step n).2
theorem Cn.back (k : Cn F L c) : ∀ i d, itr F L c i = itr F L c (i + d) → itr F L c 0 = itr F L c d
  | 0, d, h => by rw [Nat.zero_add] at h; exact h
  | i + 1, d, h => by
    refine Cn.back k i d ?_
    have h1 := k.onw i
    have h2 := k.onw (i + d)
    rw [h, show i + 1 + d = i + d + 1 by omega] at h1
    exact h1.inj (k.mem' _) (k.mem' _) h2
/-- it comes round -/
theorem Cn.round (k : Cn F L c) : ∃ m, 1 ≤ m ∧ m ≤ L.length ∧ itr F L c m = c ∧ ∀ i, 0 < i → i < m → itr F L c i ≠ c := by
  have ex : ∃ m, 1 ≤ m ∧ m ≤ L.length ∧ itr F L c m = c := by
    refine Classical.byContradiction fun no => ?_
    have nd : (orb F L c (L.length + 1)).Nodup := by
      unfold orb
      rw [List.Nodup, List.pairwise_map]
      refine List.Pairwise.imp_of_mem (fun {a b} ha hb hlt => ?_) List.pairwise_lt_range
      intro e
      have hb := List.mem_range.mp hb
      have := k.back a (b - a) (by rw [e]; congr 1; omega)
      exact no ⟨b - a, by omega, by omega, this.symm⟩
    have := nd_len nd (m := L) fun x hx => by
      obtain ⟨i, _, rfl⟩ := orb_mem.mp hx
      exact k.mem' i
    rw [orb_len] at this
    omega
  obtain ⟨m, h1, h2, h3⟩ := ex
  -- the least such
  have least : ∀ n, ∀ m, m ≤ n → 1 ≤ m → m ≤ L.length → itr F L c m = c → ∃ m, 1 ≤ m ∧ m ≤ L.length ∧ itr F L c m = c ∧ ∀ i, 0 < i → i < m → itr F L c i ≠ c := by
    intro n
    induction n with
    | zero => intro m h h1; omega
    | succ n ih =>
      intro m h h1 h2 h3
      by_cases hx : ∃ i, 0 < i ∧ i < m ∧ itr F L c i = c
      · obtain ⟨i, a, b, e⟩ := hx
        exact ih i (by omega) a (by omega) e
      · exact ⟨m, h1, h2, h3, fun i a b e => hx ⟨i, a, b, e⟩⟩
  exact least m m (Nat.le_refl _) h1 h2 h3
/-- m turns come round -/
structure Rd' (F : Fd) (L : List Int) (c : Int) (m : Nat) : Prop extends Cn F L c where
  pos : 1 ≤ m
  le : m ≤ L.length
  eq : itr F L c m = c
  min : ∀ i, 0 < i → i < m → itr F L c i ≠ c
theorem Rd'.nd {m : Nat} (r : Rd' F L c m) : (orb F L c m).Nodup := by
  unfold orb
  rw [List.Nodup, List.pairwise_map]
  refine List.Pairwise.imp_of_mem (fun {a b} ha hb hlt => ?_) List.pairwise_lt_range
  intro e
  have hb := List.mem_range.mp hb
  have := r.toCn.back a (b - a) (by rw [e]; congr 1; omega)
  exact r.min (b - a) (by omega) (by omega) this.symm
theorem Rd'.pred {m : Nat} (r : Rd' F L c m) {x : Int} (h : x ∈ orb F L c m) : ∃ y ∈ orb F L c m, Onw F L y x := by
  obtain ⟨i, hi, rfl⟩ := orb_mem.mp h
  cases i with
  | zero =>
    refine ⟨itr F L c (m - 1), orb_mem.mpr ⟨m - 1, by have := r.pos; omega, rfl⟩, ?_⟩
    have := r.toCn.onw (m - 1)
    rw [show m - 1 + 1 = m by have := r.pos; omega, r.eq] at this
    exact this
  | succ i => exact ⟨itr F L c i, orb_mem.mpr ⟨i, by omega, rfl⟩, r.toCn.onw i⟩
theorem Rd'.succ {m : Nat} (r : Rd' F L c m) {x : Int} (h : x ∈ orb F L c m) : ∃ y ∈ orb F L c m, Onw F L x y := by
  obtain ⟨i, hi, rfl⟩ := orb_mem.mp h
  by_cases e : i + 1 = m
  · refine ⟨c, orb_mem.mpr ⟨0, r.pos, rfl⟩, ?_⟩
    have := r.toCn.onw i
    rw [e, r.eq] at this
    exact this
  · exact ⟨itr F L c (i + 1), orb_mem.mpr ⟨i + 1, by omega, rfl⟩, r.toCn.onw i⟩
theorem Rd'.two' {m : Nat} (r : Rd' F L c m) : 2 ≤ m := by
  have h := r.pos
  refine Classical.byContradiction fun z => ?_
  have e : m = 1 := by omega
  have := r.toCn.onw 0
  rw [show 0 + 1 = m by omega, r.eq] at this
  exact this.2.1 rfl
/-- a stake to the left of all ways of the rope has three of the rope about it -/
theorem Rd'.inside {m : Nat} (r : Rd' F L c m) {x : Int} (hx : rg F x) (hn : x ∉ orb F L c m) (h : ∀ a ∈ orb F L c m, ∀ b ∈ orb F L c m, Onw F L a b → 0 < tb F a b x) : Surr F (orb F L c m) x := by
  refine Classical.byContradiction fun no => ?_
  have hl : ∀ y ∈ orb F L c m, rg F y := fun y hy => by
    obtain ⟨i, _, rfl⟩ := orb_mem.mp hy
    exact r.gl.rg (r.toCn.mem' i)
  have c0 : c ∈ orb F L c m := orb_mem.mpr ⟨0, r.pos, rfl⟩
  obtain ⟨t, ht⟩ := onw_of r.g hl hx ⟨c, c0, fun z => hn (z ▸ c0)⟩ no
  obtain ⟨y, hy, ho⟩ := r.pred ht.1
  have h1 := h y hy t ht.1 ho
  have e : tb F t y x = - tb F y t x := tb_anti F t y x
  have e2 : tb F y t x = tb F t x y := tb_rot F y t x
  have e3 : tb F x t y = tb F t y x := tb_rot F x t y
  have := ht.2.2 y hy (fun z => hn (z ▸ hy)) (fun z => ho.2.1 z.symm)
  omega
theorem Rd'.corners {m : Nat} (r : Rd' F L c m) {x : Int} : x ∈ orb F L c m ↔ x ∈ L ∧ ¬ Surr F L x := by
  constructor
  · intro h
    obtain ⟨i, _, rfl⟩ := orb_mem.mp h
    exact ⟨r.toCn.mem' i, (r.toCn.onw i).not_surr⟩
  · rintro ⟨h1, h2⟩
    refine Classical.byContradiction fun no => h2 ?_
    refine (r.inside (r.gl.rg h1) no fun a ha b hb ho => ?_).mono fun y hy => ?_
    · exact ho.2.2 x h1 (fun z => no (z ▸ ha)) (fun z => no (z ▸ hb))
    · obtain ⟨i, _, rfl⟩ := orb_mem.mp hy
      exact r.toCn.mem' i
theorem Rd'.len {m : Nat} (r : Rd' F L c m) : m = (v_corners F L).length := by
  have nd : (v_corners F L).Nodup := by rw [corners_eq]; exact r.gl.nodup.filter _
  have h1 := nd_len r.nd (m := v_corners F L) fun x hx => (mem_corners r.g r.gl).mpr (r.corners.mp hx)
  have h2 := nd_len nd (m := orb F L c m) fun x hx => r.corners.mpr ((mem_corners r.g r.gl).mp hx)
  rw [orb_len] at h1 h2
  omega
end
section
variable {F : Fd} {L : List Int}
/-- the least corner -/
theorem corners_head (g : GF F) (gl : GL F.length L) (h : L ≠ []) : ∃ c r, v_corners F L = c :: r ∧ c ∈ L ∧ ¬ Surr F L c := by
  obtain ⟨s, h1, h2⟩ := some_corner g (fun x hx => gl.rg hx) h
  have hm := (mem_corners g gl).mpr ⟨h1, h2⟩
  cases hc : v_corners F L with
  | nil => rw [hc] at hm; cases hm
  | cons c r =>
    have := (mem_corners g gl).mp (show c ∈ v_corners F L by rw [hc]; exact List.mem_cons_self)
    exact ⟨c, r, rfl, this.1, this.2⟩
theorem round_of (g : GF F) (gl : GL F.length L) (h : 2 ≤ L.length) : ∃ c r m, v_corners F L = c :: r ∧ Rd' F L c m := by
  obtain ⟨c, r, h1, h2, h3⟩ := corners_head g gl (fun z => by rw [z] at h; simp at h)
  have k : Cn F L c := ⟨g, gl, h2, h3, h⟩
  obtain ⟨m, a, b, e, d⟩ := k.round
  exact ⟨c, r, m, h1, ⟨k, a, b, e, d⟩⟩
theorem gI_0 {α : Type} [Inhabited α] (x : α) (r : List α) : gI (x :: r) 0 = x := gI_nat (xs := x :: r) (n := 0) (by simp)
theorem okI_1 (x : Int) : okIx [x] 0 := okI_of ⟨by decide, by show (0 : Int) < 1; decide⟩
theorem gI_last {α : Type} [Inhabited α] (l : List α) (x : α) : gI (l ++ [x]) (-1) = x := by unfold gI; rw [L2.atI_last]; rfl
theorem orb_0 (F : Fd) (L : List Int) (c : Int) {n : Nat} (h : 1 ≤ n) : gI (orb F L c n) 0 = c := by
  obtain ⟨m, rfl⟩ : ∃ m, n = m + 1 := ⟨n - 1, by omega⟩
  unfold orb
  rw [List.range_succ_eq_map, List.map_cons, gI_0]
  rfl
theorem rope_loop {c : Int} {m : Nat} (r : Rd' F L c m) : ∀ (d n fuel : Nat), n + d = m → 1 ≤ n → d < fuel → whlV (v_rope_by_b3c F L) (v_rope_by_b3 F L) fuel (orb F L c n, itr F L c n) = .nx (orb F L c m, itr F L c m) ∧ whlOk (v_rope_by_b3c F L) (v_rope_by_b3 F L) (ok_rope_by_b3c F L) (ok_rope_by_b3 F L) fuel (orb F L c n, itr F L c n)
  | 0, n, fuel + 1, h, h1, _ => by
    have e : n = m := by omega
    subst e
    have hc : v_rope_by_b3c F L (orb F L c n, itr F L c n) = false := by
      unfold v_rope_by_b3c
      show (!eqB (itr F L c n) (gI (orb F L c n) 0)) = false
      rw [orb_0 F L c h1, r.eq]
      simp
    refine ⟨?_, ?_, ?_⟩
    · unfold whlV
      rw [hc, if_neg Bool.false_ne_true]
    · unfold ok_rope_by_b3c
      exact okI_of ⟨by decide, by show (0 : Int) < ((orb F L c n).length : Nat); rw [orb_len]; omega⟩
    · intro z; rw [hc] at z; cases z
  | d + 1, n, fuel + 1, h, h1, hf => by
    have hc : v_rope_by_b3c F L (orb F L c n, itr F L c n) = true := by
      unfold v_rope_by_b3c
      show (!eqB (itr F L c n) (gI (orb F L c n) 0)) = true
      rw [orb_0 F L c h1]
      have := r.min n (by omega) (by omega)
      simp [this]
    have hs : v_rope_by_b3 F L (orb F L c n, itr F L c n) = .nx (orb F L c (n + 1), itr F L c (n + 1)) := by
      unfold v_rope_by_b3
      rw [orb_succ]
      rfl
    obtain ⟨h2, h3⟩ := rope_loop r d (n + 1) fuel (by omega) (by omega) (by omega)
    have ho := r.toCn.onw n
    have on1 := onward_one r.gl.nodup ho
    refine ⟨?_, ?_, ?_⟩
    · unfold whlV
      rw [hc, if_pos rfl, hs]
      exact h2
    · unfold ok_rope_by_b3c
      exact okI_of ⟨by decide, by show (0 : Int) < ((orb F L c n).length : Nat); rw [orb_len]; omega⟩
    · intro _
      refine ⟨?_, by rw [hs]; exact h3⟩
      unfold ok_rope_by_b3
      refine ⟨lim_of ?_, onward_ok r.g r.gl (r.gl.rg (r.toCn.mem' n)), ?_⟩
      · show (orb F L c n).length + 1 ≤ 100000
        have := lot_le r.g r.gl
        have := r.le
        rw [orb_len]; omega
      · show okIx (v_onward F L (itr F L c n)) 0
        rw [on1]
        exact okI_1 _
theorem cut1 (c : Int) (r : List Int) : cut (c :: r) none (some (1 : Int)) = [c] := cut_take (c :: r) 1
theorem rope_eq {c : Int} {rest : List Int} {m : Nat} (hc : v_corners F L = c :: rest) (r : Rd' F L c m) (h3 : 3 ≤ L.length) : v_rope_by F L = orb F L c m ∧ ok_rope_by F L := by
  have h8 := lot_le r.g r.gl
  have hm := r.le
  have e1 : cut (v_corners F L) none (some (1 : Int)) = orb F L c 1 := by rw [hc, cut1]; rfl
  have e2 : v_rope_by_there_2 F L = itr F L c 1 := by
    unfold v_rope_by_there_2
    rw [hc, cut1]; rfl
  obtain ⟨h1, h2⟩ := rope_loop r (m - 1) 1 WHL (by have := r.pos; omega) (Nat.le_refl _) (by unfold WHL; omega)
  have ho := r.toCn.onw 0
  have on1 := onward_one r.gl.nodup ho
  constructor
  · unfold v_rope_by
    rw [if_neg (by simp; omega), e1, e2, h1]
    rfl
  · unfold ok_rope_by
    intro _
    rw [e2, hc, cut1]
    refine ⟨corners_ok r.g r.gl, ⟨by show -(1 : Int) ≤ -1; decide, by show (-1 : Int) < 1; decide⟩, onward_ok r.g r.gl (r.gl.rg r.mem), ?_, ?_⟩
    · show okIx (v_onward F L c) 0
      rw [show v_onward F L c = [itr F L c 1] from on1]
      exact okI_1 _
    · exact h2
theorem rope_small (h : L.length < 3) : v_rope_by F L = L ∧ ok_rope_by F L := by
  constructor
  · unfold v_rope_by
    rw [if_pos (by simp; omega)]
  · unfold ok_rope_by
    intro z
    simp at z
    omega
theorem rope_ok (g : GF F) (gl : GL F.length L) : ok_rope F L := by
  unfold ok_rope
  refine ⟨need_lot_ok g gl, ?_⟩
  by_cases h : 3 ≤ L.length
  · obtain ⟨c, r, m, hc, R⟩ := round_of g gl (by omega)
    exact (rope_eq hc R h).2
  · exact (rope_small (by omega)).2
end
end Rs
end

section
set_option Elab.async false
set_option linter.all false
set_option maxRecDepth 100000
set_option maxHeartbeats 1000000
set_option autoImplicit false
/-! RsTxt: how long texts of data are. Own work. -/
namespace Rs
open PySem
theorem shown_all : ∀ xs : List D, PyData.shownAll (toPys xs) = xs.map fun x => (toPy x).shown
  | [] => rfl
  | x :: xs => by
    unfold toPys PyData.shownAll
    rw [shown_all xs]
    rfl
theorem piled_le {b : Nat} : ∀ ts : List Str, (∀ t ∈ ts, t.length ≤ b) → piled ts ≤ ts.length * (b + 2)
  | [], _ => by simp [piled]
  | t :: ts, h => by
    rw [piled_cons, List.length_cons, Nat.succ_mul]
    have h1 := h t List.mem_cons_self
    have h2 := piled_le ts fun x hx => h x (List.mem_cons_of_mem _ hx)
    omega
theorem join_le : ∀ ts : List Str, (Str.join ", " ts).length ≤ piled ts
  | [] => by decide
  | t :: ts => by
    have := join_length_add (t :: ts) (by simp)
    omega
/-- d's text is told, and is no longer than b -/
def SZ (d : D) (n b : Nat) : Prop := shw n d = true ∧ (toPy d).shown.length ≤ b
theorem SZ.le {d : D} {n b c : Nat} (h : SZ d n b) (hc : b ≤ c) : SZ d n c := ⟨h.1, Nat.le_trans h.2 hc⟩
theorem sz_tup {n b : Nat} {xs : List D} (h : ∀ x ∈ xs, SZ x n b) : SZ (.tup xs) (n + 1) (xs.length * (b + 2) + 3) := by
  refine ⟨?_, ?_⟩
  · show xs.all (shw n) = true
    rw [List.all_eq_true]
    exact fun x hx => (h x hx).1
  have e : (toPy (.tup xs)).shown = tupleText (xs.map fun x => (toPy x).shown) := by
    rw [← shown_all]
    unfold toPy PyData.shown
    rfl
  rw [e]
  unfold tupleText
  rw [strLen_append, strLen_append]
  have h1 := join_le (xs.map fun x => (toPy x).shown)
  have h2 := piled_le (b := b) (xs.map fun x => (toPy x).shown) (fun t ht => by
    obtain ⟨x, hx, rfl⟩ := List.mem_map.mp ht
    exact (h x hx).2)
  rw [List.length_map] at h2
  have h3 : ("(" : Str).length = 1 := by decide
  have h5 : ((if (xs.map fun x => (toPy x).shown).length == 1 then ",)" else ")" : String) : Str).length ≤ 2 := by split <;> decide
  omega
theorem sz_lst {n b : Nat} {xs : List D} (h : ∀ x ∈ xs, SZ x n b) : SZ (.lst xs) (n + 1) (xs.length * (b + 2) + 3) := by
  refine ⟨?_, ?_⟩
  · show xs.all (shw n) = true
    rw [List.all_eq_true]
    exact fun x hx => (h x hx).1
  have e : (toPy (.lst xs)).shown = listText (xs.map fun x => (toPy x).shown) := by
    rw [← shown_all]
    unfold toPy PyData.shown
    rfl
  rw [e]
  unfold listText
  rw [strLen_append]
  have h0 : ∀ (ts : List Str) (k : Nat) (acc : Str), (textFrom k acc ts).length ≤ acc.length + piled ts := by
    intro ts
    induction ts with
    | nil => exact fun k acc => Nat.le_add_right _ _
    | cons t ts ih =>
      intro k acc
      have h := ih (k + 1) (acc ++ (if k > 0 then ", " else "" : String) ++ t)
      have e : (acc ++ (if k > 0 then ", " else "" : String) ++ t).length ≤ acc.length + 2 + t.length := by
        rw [strLen_append, strLen_append]
        have : ((if k > 0 then ", " else "" : String) : Str).length ≤ 2 := by split <;> decide
        omega
      rw [piled_cons]
      show (textFrom (k + 1) (acc ++ (if k > 0 then ", " else "" : String) ++ t) ts).length ≤ _
      omega
  have h1 := h0 (xs.map fun x => (toPy x).shown) 0 "["
  have h2 := piled_le (b := b) (xs.map fun x => (toPy x).shown) (fun t ht => by
    obtain ⟨x, hx, rfl⟩ := List.mem_map.mp ht
    exact (h x hx).2)
  rw [List.length_map] at h2
  have h3 : ("[" : Str).length = 1 := by decide
  have h4 : ("]" : Str).length = 1 := by decide
  omega
theorem sz_int {i : Int} {n k : Nat} (hk : 0 < k) (h : i.natAbs < 10 ^ k) (hk2 : k ≤ 500) : SZ (.int i) n (k + 1) := by
  refine ⟨?_, ?_⟩
  · have h2 : (10 : Nat) ^ k ≤ 10 ^ 500 := Nat.pow_le_pow_right (by decide) hk2
    have h3 : (10 : Nat) ^ 500 < 2 ^ 1900 := by decide +kernel
    have : i.natAbs < 2 ^ 1900 := by omega
    cases n <;> exact decide_eq_true this
  · have e : (toPy (.int i)).shown = Str.ofString (toString i) := by unfold toPy PyData.shown; rfl
    have el : (Str.ofString (toString i)).length = (toString i).toList.length := by
      rw [Str.ofString_eq_toList]
      unfold Str.length
      simp
    rw [e, el]
    have hn : ∀ m : Nat, m < 10 ^ k → (Nat.toDigits 10 m).length ≤ k := fun m hm => (Nat.length_toDigits_le_iff (by decide) hk).mpr hm
    cases i with
    | ofNat m =>
      have h' : m < 10 ^ k := h
      have : (toString (Int.ofNat m)) = Nat.repr m := rfl
      rw [this]
      unfold Nat.repr
      have := hn m h'
      simp
      omega
    | negSucc m =>
      have h' : m + 1 < 10 ^ k := h
      have : (toString (Int.negSucc m)) = "-" ++ Nat.repr (m + 1) := rfl
      rw [this]
      unfold Nat.repr
      have := hn (m + 1) h'
      simp
      omega
theorem sz_small {i : Int} {n : Nat} (h : -1000000 < i ∧ i < 1000000) : SZ (.int i) n 7 := sz_int (k := 6) (by decide) (by omega) (by decide)
theorem sz_bl (b : Bool) (n : Nat) : SZ (.bl b) n 5 := by
  refine ⟨by cases n <;> rfl, ?_⟩
  cases b <;> decide
theorem sz_non (n : Nat) : SZ .non n 4 := ⟨by cases n <;> rfl, by decide⟩
theorem sz_T {α : Type} {e : α → D} {n b : Nat} {xs : List α} (h : ∀ x ∈ xs, SZ (e x) n b) : SZ (eT e xs) (n + 1) (xs.length * (b + 2) + 3) := by
  have := sz_tup (xs := xs.map e) (n := n) (b := b) fun d hd => by
    obtain ⟨x, hx, rfl⟩ := List.mem_map.mp hd
    exact h x hx
  rwa [List.length_map] at this
theorem sz_L {α : Type} {e : α → D} {n b : Nat} {xs : List α} (h : ∀ x ∈ xs, SZ (e x) n b) : SZ (eL e xs) (n + 1) (xs.length * (b + 2) + 3) := by
  have := sz_lst (xs := xs.map e) (n := n) (b := b) fun d hd => by
    obtain ⟨x, hx, rfl⟩ := List.mem_map.mp hd
    exact h x hx
  rwa [List.length_map] at this
theorem sz_2 {α β : Type} {a : α → D} {b : β → D} {n c : Nat} {p : α × β} (h1 : SZ (a p.1) n c) (h2 : SZ (b p.2) n c) : SZ (e2 a b p) (n + 1) (2 * (c + 2) + 3) :=
  sz_tup (xs := [a p.1, b p.2]) fun x hx => by
    simp at hx
    rcases hx with rfl | rfl
    · exact h1
    · exact h2
theorem sz_two {x y : D} {n c : Nat} (h1 : SZ x n c) (h2 : SZ y n c) : SZ (.tup [x, y]) (n + 1) (2 * (c + 2) + 3) :=
  sz_tup (xs := [x, y]) fun z hx => by
    simp at hx
    rcases hx with rfl | rfl
    · exact h1
    · exact h2
theorem sz_two' {x y : D} {n c : Nat} (h1 : SZ x n c) (h2 : SZ y n c) : SZ (.lst [x, y]) (n + 1) (2 * (c + 2) + 3) :=
  sz_lst (xs := [x, y]) fun z hx => by
    simp at hx
    rcases hx with rfl | rfl
    · exact h1
    · exact h2
theorem sz_rp {d : D} {b : Nat} (h : SZ d 30 b) (hb : b ≤ 100000) : rpOk d := ⟨h.1, Nat.le_trans h.2 hb⟩
theorem sz_up : ∀ {d : D} {n m b : Nat}, n ≤ m → SZ d n b → SZ d m b := by
  have key : ∀ (n : Nat) (d : D) (m : Nat), n ≤ m → shw n d = true → shw m d = true := by
    intro n
    induction n with
    | zero =>
      intro d m _ h
      cases d <;> cases m <;> first | exact h | rfl | (cases h; done) | skip
    | succ n ih =>
      intro d m hm h
      obtain ⟨k, rfl⟩ : ∃ k, m = k + 1 := ⟨m - 1, by omega⟩
      cases d with
      | tup xs =>
        have h : xs.all (shw n) = true := h
        show xs.all (shw k) = true
        rw [List.all_eq_true] at h ⊢
        exact fun x hx => ih x k (by omega) (h x hx)
      | lst xs =>
        have h : xs.all (shw n) = true := h
        show xs.all (shw k) = true
        rw [List.all_eq_true] at h ⊢
        exact fun x hx => ih x k (by omega) (h x hx)
      | _ => exact h
  exact fun {d n m b} hnm h => ⟨key n d m hnm h.1, h.2⟩
/-! fields and lots -/
theorem sz_place {p : Int × Int} (h : inBox p) (n : Nat) : SZ (e2 D.int D.int p) (n + 1) 21 := by
  unfold inBox at h
  exact (sz_2 (n := n) (sz_small (by omega)) (sz_small (by omega))).le (by decide)
theorem sz_field {F : Fd} (g : GF F) (n : Nat) : SZ (eT (e2 D.int D.int) F) (n + 2) 200 := by
  have := g.few
  exact (sz_T (n := n + 1) fun p hp => sz_place (g.box p hp) n).le (by omega)
theorem sz_nums {L : List Int} (h : ∀ x ∈ L, -1000000 < x ∧ x < 1000000) (hl : L.length ≤ 10) (n : Nat) : SZ (eT D.int L) (n + 1) 100 :=
  (sz_T (n := n) fun x hx => sz_small (h x hx)).le (by omega)
theorem sz_lot {F : Fd} (g : GF F) {L : List Int} (gl : GL F.length L) (n : Nat) : SZ (eT D.int L) (n + 1) 100 := by
  have hf := g.few
  have := lot_le g gl
  exact sz_nums (fun x hx => by have := gl.box x hx; omega) (by omega) n
theorem rp_fl {F : Fd} (g : GF F) {L : List Int} (gl : GL F.length L) : rpOk (D.tup [eT (e2 D.int D.int) F, eT D.int L]) :=
  sz_rp (sz_two (n := 29) (sz_field g 27) ((sz_lot g gl 28).le (by decide))) (by decide)
theorem same_self {d : D} (h : rpOk d) : v_law_same d d = true ∧ ok_law_same d d := by
  unfold v_law_same ok_law_same
  exact ⟨by simp, h, h⟩
end Rs
end

section
set_option Elab.async false
set_option linter.all false
set_option maxRecDepth 100000
set_option maxHeartbeats 1000000
set_option autoImplicit false
/-! RsGp: good fields in a form that no order matters to: what may be done with a field's places. Own work. -/
namespace Rs
open PySem
structure GP (P : Fd) : Prop where
  box : ∀ p ∈ P, inBox p
  nd : P.Nodup
  free : ∀ p ∈ P, ∀ q ∈ P, ∀ r ∈ P, p ≠ q → q ≠ r → p ≠ r → v_bend p q r ≠ 0
theorem mem_gI {α : Type} [Inhabited α] {xs : List α} {x : α} (h : x ∈ xs) : ∃ i : Int, (0 ≤ i ∧ i < xs.length) ∧ gI xs i = x := by
  obtain ⟨n, hn, e⟩ := List.getElem_of_mem h
  exact ⟨(n : Int), ⟨by omega, by omega⟩, by rw [gI_nat hn]; exact e⟩
theorem GF.gp {F : Fd} (g : GF F) : GP F := by
  refine ⟨g.box, g.nd, fun p hp q hq r hr h1 h2 h3 => ?_⟩
  obtain ⟨a, ha, rfl⟩ := mem_gI hp
  obtain ⟨b, hb, rfl⟩ := mem_gI hq
  obtain ⟨c, hc, rfl⟩ := mem_gI hr
  exact g.ne ha hb hc (fun z => h1 (by rw [z])) (fun z => h2 (by rw [z])) (fun z => h3 (by rw [z]))
theorem GP.gf {F : Fd} (g : GP F) (h1 : 1 ≤ F.length) (h2 : F.length ≤ 8) : GF F := by
  refine ⟨h1, h2, g.box, g.nd, fun a b c ha hab hbc hc => ?_⟩
  have key : ∀ i j : Int, 0 ≤ i → i < j → j < F.length → gI F i ≠ gI F j := by
    intro i j hi hij hj h
    obtain ⟨n, rfl⟩ : ∃ n : Nat, i = n := ⟨i.toNat, by omega⟩
    obtain ⟨m, rfl⟩ : ∃ m : Nat, j = m := ⟨j.toNat, by omega⟩
    have hn : n < F.length := by omega
    have hm : m < F.length := by omega
    rw [gI_nat hn, gI_nat hm] at h
    have := (List.getElem_inj (h₀ := hn) (h₁ := hm) g.nd).mp h
    omega
  exact g.free _ (gI_mem ⟨ha, by omega⟩) _ (gI_mem ⟨by omega, by omega⟩) _ (gI_mem ⟨by omega, hc⟩) (key a b ha hab (by omega)) (key b c (by omega) hbc hc) (key a c ha (by omega) hc)
theorem GP.perm {P Q : Fd} (g : GP P) (h : P.Perm Q) : GP Q :=
  ⟨fun p hp => g.box p (h.mem_iff.mpr hp), h.nodup_iff.mp g.nd, fun p hp q hq r hr => g.free p (h.mem_iff.mpr hp) q (h.mem_iff.mpr hq) r (h.mem_iff.mpr hr)⟩
theorem GP.sub {P Q : Fd} (g : GP P) (h : Q.Sublist P) : GP Q :=
  ⟨fun p hp => g.box p (h.subset hp), g.nd.sublist h, fun p hp q hq r hr => g.free p (h.subset hp) q (h.subset hq) r (h.subset hr)⟩
theorem Free.ne {P : Fd} {p : Int × Int} (h : Free P p) {q s : Int × Int} (hq : q ∈ P) (hs : s ∈ P) (hn : q ≠ s) : v_bend q s p ≠ 0 := by
  obtain ⟨i, hi⟩ := List.getElem?_of_mem hq
  obtain ⟨j, hj⟩ := List.getElem?_of_mem hs
  rcases Nat.lt_trichotomy i j with h1 | h1 | h1
  · exact h.2 i j q s h1 hi hj
  · subst h1; rw [hi] at hj; exact (hn (Option.some.inj hj)).elim
  · have := h.2 j i s q h1 hj hi
    rw [bend_anti]
    omega
theorem GP.cons {P : Fd} (g : GP P) {p : Int × Int} (hb : inBox p) (h : Free P p) : GP (p :: P) := by
  refine ⟨fun q hq => ?_, List.nodup_cons.mpr ⟨h.1, g.nd⟩, ?_⟩
  · rcases List.mem_cons.mp hq with rfl | hq
    · exact hb
    · exact g.box q hq
  · intro a ha b hb c hc h1 h2 h3
    rcases List.mem_cons.mp ha with ea | ia
    · subst ea
      have ib := (List.mem_cons.mp hb).resolve_left fun z => h1 z.symm
      have ic := (List.mem_cons.mp hc).resolve_left fun z => h3 z.symm
      rw [bend_rot]; exact h.ne ib ic h2
    · rcases List.mem_cons.mp hb with eb | ib
      · subst eb
        have ic := (List.mem_cons.mp hc).resolve_left fun z => h2 z.symm
        rw [bend_rot, bend_rot]; exact h.ne ic ia (fun z => h3 z.symm)
      · rcases List.mem_cons.mp hc with ec | ic
        · subst ec; exact h.ne ia ib h1
        · exact g.free a ia b ib c ic h1 h2 h3
theorem GP.map {P : Fd} (g : GP P) {f : Int × Int → Int × Int} (hb : ∀ p ∈ P, inBox (f p)) (hi : ∀ p q, f p = f q → p = q) (hf : ∀ p q r, v_bend (f p) (f q) (f r) = 0 → v_bend p q r = 0) : GP (P.map f) := by
  refine ⟨fun q hq => ?_, ?_, ?_⟩
  · obtain ⟨p, hp, rfl⟩ := List.mem_map.mp hq
    exact hb p hp
  · exact List.Pairwise.map f (fun a b h z => h (hi a b z)) g.nd
  · intro a ha b hb c hc h1 h2 h3 h4
    obtain ⟨p, hp, rfl⟩ := List.mem_map.mp ha
    obtain ⟨q, hq, rfl⟩ := List.mem_map.mp hb
    obtain ⟨r, hr, rfl⟩ := List.mem_map.mp hc
    exact g.free p hp q hq r hr (fun z => h1 (by rw [z])) (fun z => h2 (by rw [z])) (fun z => h3 (by rw [z])) (hf p q r h4)
/-- one stake moved -/
theorem cut_swap {F : Fd} {k : Int} (h : 0 ≤ k ∧ k < F.length) (p : Int × Int) :
    ((cut F none (some k) ++ cut F (some (k + 1)) none).Sublist F) ∧ (p :: (cut F none (some k) ++ cut F (some (k + 1)) none)).Perm ((cut F none (some k) ++ [p]) ++ cut F (some (k + 1)) none) ∧ ((cut F none (some k) ++ [p]) ++ cut F (some (k + 1)) none).length = F.length := by
  obtain ⟨n, rfl⟩ : ∃ n : Nat, k = n := ⟨k.toNat, by omega⟩
  rw [cut_take, show ((n : Int) + 1) = ((n + 1 : Nat) : Int) by push_cast; rfl, cut_drop]
  refine ⟨?_, ?_, ?_⟩
  · have e : F = F.take n ++ F.drop n := (List.take_append_drop n F).symm
    have s : (F.drop (n + 1)).Sublist (F.drop n) := by
      rw [← List.drop_drop]; exact List.drop_sublist _ _
    have := (List.Sublist.refl (F.take n)).append s
    rwa [← e] at this
  · rw [List.append_assoc]
    exact (List.perm_middle (l₁ := F.take n) (l₂ := F.drop (n + 1)) (a := p)).symm
  · simp
    omega
theorem GF.swap {F : Fd} (g : GF F) {k : Int} (h : 0 ≤ k ∧ k < F.length) {p : Int × Int} (hb : Rs.inBox p) (hf : Free (cut F none (some k) ++ cut F (some (k + 1)) none) p) : GF ((cut F none (some k) ++ [p]) ++ cut F (some (k + 1)) none) := by
  obtain ⟨h1, h2, h3⟩ := cut_swap h p
  exact (((g.gp.sub h1).cons hb hf).perm h2).gf (by rw [h3]; exact g.pos) (by rw [h3]; exact g.few)
/-! ### max and min -/
theorem le_maxV {xs : List Int} {x : Int} (h : x ∈ xs) : x ≤ maxV xs := (maxI_ok (maxI_some (List.ne_nil_of_mem h))).2 x h
theorem maxV_mem {xs : List Int} (h : xs ≠ []) : maxV xs ∈ xs := (maxI_ok (maxI_some h)).1
theorem minV_le {xs : List Int} {x : Int} (h : x ∈ xs) : minV xs ≤ x := (minI_ok (minI_some (List.ne_nil_of_mem h))).2 x h
theorem minV_mem {xs : List Int} (h : xs ≠ []) : minV xs ∈ xs := (minI_ok (minI_some h)).1
/-! ### a fold that counts -/
theorem fld_cnt {α σ : Type} {step : σ → α → σ} {ok : σ → α → Prop} (N : Nat) (I : Nat → σ → Prop) : ∀ (xs : List α) (k : Nat) (s : σ), k + xs.length ≤ N → I k s → (∀ k s, k < N → I k s → ∀ x ∈ xs, ok s x ∧ I (k + 1) (step s x)) → fldOk step ok xs s ∧ I (k + xs.length) (xs.foldl step s)
  | [], k, s, _, h, _ => ⟨trivial, h⟩
  | x :: xs, k, s, hk, h, hs => by
    rw [List.length_cons] at hk
    obtain ⟨a, b⟩ := hs k s (by omega) h x List.mem_cons_self
    obtain ⟨c, d⟩ := fld_cnt N I xs (k + 1) (step s x) (by omega) b (fun k s h1 h2 y hy => hs k s h1 h2 y (List.mem_cons_of_mem _ hy))
    refine ⟨⟨a, c⟩, ?_⟩
    rw [List.length_cons, show k + (xs.length + 1) = k + 1 + xs.length by omega]
    exact d
theorem erase_perm {α : Type} : ∀ (xs : List α) (n : Nat) (h : n < xs.length), (xs[n] :: xs.eraseIdx n).Perm xs
  | x :: xs, 0, _ => List.Perm.refl _
  | x :: xs, n + 1, h => (List.Perm.swap x _ _).trans ((erase_perm xs n (Nat.lt_of_succ_lt_succ h)).cons x)
theorem popI_perm {α : Type} [Inhabited α] {xs : List α} {i : Int} (h : 0 ≤ i ∧ i < xs.length) : (gI xs i :: popI xs i).Perm xs ∧ (popI xs i).length + 1 = xs.length := by
  obtain ⟨n, rfl⟩ : ∃ n : Nat, i = n := ⟨i.toNat, by omega⟩
  have hn : n < xs.length := by omega
  have e : popI xs (n : Int) = xs.eraseIdx n := by
    unfold popI
    have : L2.ixN xs.length (n : Int) = some n := by
      unfold L2.ixN
      simp
      omega
    rw [this]
  rw [e, gI_nat hn]
  refine ⟨?_, ?_⟩
  · exact erase_perm xs n hn
  · rw [List.length_eraseIdx_of_lt hn]; omega
/-! ### loops over the same things told in two ways -/
theorem forV_map {α β ρ σ : Type} {f : σ → α → Lp ρ σ} {g : σ → β → Lp ρ σ} {m : β → α} : ∀ (xs : List β) (s : σ), (∀ s, ∀ x ∈ xs, f s (m x) = g s x) → forV f (xs.map m) s = forV g xs s
  | [], _, _ => rfl
  | x :: xs, s, h => by
    rw [List.map_cons]
    unfold forV
    rw [h s x List.mem_cons_self]
    cases g s x with
    | nx s' => exact forV_map xs s' fun s y hy => h s y (List.mem_cons_of_mem _ hy)
    | bk s' => rfl
    | rt r => rfl
theorem law_threesA_eq : v_law_threesA = v_law_threes := by
  funext L
  unfold v_law_threesA v_law_threes v_law_threesA_l11 v_law_threes_l11
  have : v_law_threesA_b2 = v_law_threes_b2 := by funext a b c; unfold v_law_threesA_b2 v_law_threes_b2; rfl
  rw [this]
theorem law_threesA_ok : ok_law_threesA = ok_law_threes := by
  funext L
  unfold ok_law_threesA ok_law_threes v_law_threesA_l11 v_law_threes_l11
  have : v_law_threesA_b2 = v_law_threes_b2 := by funext a b c; unfold v_law_threesA_b2 v_law_threes_b2; rfl
  have h2 : ok_law_threesA_b2 = ok_law_threes_b2 := by funext a b c; unfold ok_law_threesA_b2 ok_law_threes_b2; rfl
  rw [this, h2]
theorem threes_list : ∀ n : Nat, n ≤ 8 → v_law_threes (rgI 0 (n : Int)) = (v_threes (n : Int)).map fun t => [t.1, t.2.1, t.2.2] := by
  decide +kernel
end Rs
end

section
set_option Elab.async false
set_option linter.all false
set_option maxRecDepth 100000
set_option maxHeartbeats 1000000
set_option autoImplicit false
/-! RsWithin: within. Own work. -/
namespace Rs
open PySem
theorem bend_aff (u v x p q r : Int × Int) : v_bend u v x * (v_bend x q r + v_bend x r p + v_bend x p q) = v_bend u v p * v_bend x q r + v_bend u v q * v_bend x r p + v_bend u v r * v_bend x p q := by unfold v_bend; grind
section
variable {F : Fd} {L : List Int}
theorem onw_ge (o : ∀ x ∈ L, rg F x) {a b : Int} (h : Onw F L a b) {p : Int} (hp : p ∈ L) : 0 ≤ tb F a b p ∧ (p ≠ a → p ≠ b → 0 < tb F a b p) := by
  by_cases h1 : p = a
  · subst h1; rw [tb_3]; exact ⟨by omega, fun z => (z rfl).elim⟩
  · by_cases h2 : p = b
    · subst h2; rw [tb_2]; exact ⟨by omega, fun _ z => (z rfl).elim⟩
    · have := h.2.2 p hp h1 h2
      exact ⟨by omega, fun _ _ => this⟩
/-- who is surrounded lies left of every step of the rope -/
theorem surr_left (o : ∀ x ∈ L, rg F x) {a b x : Int} (h : Onw F L a b) (s : Surr F L x) : 0 < tb F a b x := by
  obtain ⟨p, hp, q, hq, r, hr, h1, h2, h3⟩ := s
  have e : tb F a b x * (tb F x q r + tb F x r p + tb F x p q) = tb F a b p * tb F x q r + tb F a b q * tb F x r p + tb F a b r * tb F x p q := bend_aff ..
  obtain ⟨p0, p1⟩ := onw_ge o h hp
  obtain ⟨q0, q1⟩ := onw_ge o h hq
  obtain ⟨r0, r1⟩ := onw_ge o h hr
  have npq : p ≠ q := fun z => by rw [z, tb_2] at h1; omega
  have nqr : q ≠ r := fun z => by rw [z, tb_2] at h2; omega
  have nrp : r ≠ p := fun z => by rw [z, tb_2] at h3; omega
  have some : 0 < tb F a b p ∨ 0 < tb F a b q ∨ 0 < tb F a b r := by
    by_cases c1 : p = a ∨ p = b
    · by_cases c2 : q = a ∨ q = b
      · refine .inr (.inr (r1 ?_ ?_))
        · intro z; subst z
          rcases c1 with c1 | c1
          · exact nrp c1.symm
          · rcases c2 with c2 | c2
            · exact nqr c2
            · exact npq (c1.trans c2.symm)
        · intro z; subst z
          rcases c1 with c1 | c1
          · rcases c2 with c2 | c2
            · exact npq (c1.trans c2.symm)
            · exact nqr c2
          · exact nrp c1.symm
      · exact .inr (.inl (q1 (fun z => c2 (.inl z)) fun z => c2 (.inr z)))
    · exact .inl (p1 (fun z => c1 (.inl z)) fun z => c1 (.inr z))
  have m1 := Int.mul_nonneg p0 (Int.le_of_lt h2)
  have m2 := Int.mul_nonneg q0 (Int.le_of_lt h3)
  have m3 := Int.mul_nonneg r0 (Int.le_of_lt h1)
  refine Classical.byContradiction fun z => ?_
  have hle : tb F a b x * (tb F x q r + tb F x r p + tb F x p q) ≤ 0 * (tb F x q r + tb F x r p + tb F x p q) := Int.mul_le_mul_of_nonneg_right (by omega) (by omega)
  rw [Int.zero_mul] at hle
  rcases some with k | k | k
  · have := Int.mul_pos k h2; omega
  · have := Int.mul_pos k h3; omega
  · have := Int.mul_pos k h1; omega
theorem steps_eq {c : Int} {m : Nat} (r : Rd' F L c m) : (orb F L c m).zip (cut (orb F L c m) (some (1 : Int)) none ++ cut (orb F L c m) none (some (1 : Int))) = (List.range m).map fun i => (itr F L c i, itr F L c (i + 1)) := by
  have e1 : cut (orb F L c m) (some (1 : Int)) none = (orb F L c m).drop 1 := cut_drop _ 1
  have e2 : cut (orb F L c m) none (some (1 : Int)) = (orb F L c m).take 1 := cut_take _ 1
  rw [e1, e2]
  have e3 : (orb F L c m).drop 1 ++ (orb F L c m).take 1 = (List.range m).map fun i => itr F L c (i + 1) := by
    obtain ⟨k, rfl⟩ : ∃ k, m = k + 1 := ⟨m - 1, by have := r.pos; omega⟩
    have h0 : itr F L c (k + 1) = itr F L c 0 := r.eq
    unfold orb
    rw [List.range_succ_eq_map, List.map_cons, List.map_map]
    show (List.range k).map (itr F L c ∘ Nat.succ) ++ [itr F L c 0] = _
    rw [← List.range_succ_eq_map, List.range_succ, List.map_append]
    show _ = (List.range k).map (fun i => itr F L c (i + 1)) ++ [itr F L c (k + 1)]
    rw [h0]
    rfl
  rw [e3]
  unfold orb
  rw [List.zip_map']
theorem steps_iff {c : Int} {m : Nat} (r : Rd' F L c m) {x : Int} (hx : rg F x) : (∀ i, i < m → 0 < tb F (itr F L c i) (itr F L c (i + 1)) x) ↔ Surr F L x := by
  constructor
  · intro h
    have hn : x ∉ orb F L c m := fun z => by
      obtain ⟨i, hi, rfl⟩ := orb_mem.mp z
      have := h i hi
      rw [tb_3] at this
      omega
    refine (r.inside hx hn fun a ha b hb o => ?_).mono fun y hy => (r.corners.mp hy).1
    obtain ⟨i, hi, rfl⟩ := orb_mem.mp ha
    rw [o.uniq (r.toCn.onw i)]
    exact h i hi
  · exact fun s i _ => surr_left (fun y hy => r.gl.rg hy) (r.toCn.onw i) s
/-- within: who is surrounded -/
theorem within_eq (g : GF F) (gl : GL F.length L) : v_within_by F L = (rgI 0 (F.length : Int)).filter (fun x => v_law_is_held F L x) ∧ ok_within_by F L := by
  have h8 := lot_le g gl
  have hf := g.few
  by_cases h : L.length < 3
  · constructor
    · unfold v_within_by
      rw [if_pos (decide_eq_true (by omega))]
      refine (List.filter_eq_nil_iff.mpr fun x hx => ?_).symm
      rw [is_held_iff gl.inc]
      intro s
      have := three_of s
      omega
    · unfold ok_within_by
      intro z
      have := of_decide_eq_false z
      omega
  · obtain ⟨c, rest, m, hc, r⟩ := round_of g gl (by omega)
    obtain ⟨e, ho⟩ := rope_eq hc r (by omega)
    have hm := r.le
    have eb : v_within_by_both_2 F L = (List.range m).map fun i => (itr F L c i, itr F L c (i + 1)) := by
      unfold v_within_by_both_2
      rw [e, steps_eq r]
    constructor
    · unfold v_within_by
      rw [if_neg (by simp; omega)]
      refine List.filter_congr fun x hx => ?_
      rw [eb]
      have hr : rg F x := rgI_mem.mp hx
      have key : (((List.range m).map fun i => (itr F L c i, itr F L c (i + 1))).all fun x5 => eqB (v_side F x5.1 x5.2 x) 1) = true ↔ v_law_is_held F L x = true := by
        rw [is_held_iff gl.inc, ← steps_iff r hr, List.all_map, List.all_eq_true]
        constructor
        · intro h i hi
          have := h i (List.mem_range.mpr hi)
          exact side_pos.mp (eqB_iff.mp this)
        · intro h i hi
          exact eqB_iff.mpr (side_pos.mpr (h i (List.mem_range.mp hi)))
      cases h1 : v_law_is_held F L x with
      | true => exact key.mpr h1
      | false =>
        cases h2 : (((List.range m).map fun i => (itr F L c i, itr F L c (i + 1))).all fun x5 => eqB (v_side F x5.1 x5.2 x) 1) with
        | true => rw [key.mp h2] at h1; cases h1
        | false => rfl
    · unfold ok_within_by
      intro _
      rw [eb, e]
      have hlen : (orb F L c m).length = m := orb_len ..
      have c1 := (cut_sub (orb F L c m) (some (1 : Int)) none).length_le
      have c2 := (cut_sub (orb F L c m) none (some (1 : Int))).length_le
      refine ⟨ho, lim_of (by omega), lim_of (by omega), ⟨by omega, by omega⟩, fun x hx => ⟨fun p hp => ?_, lim_of (by rw [List.length_map, List.length_range]; omega)⟩, lim_of (by rw [rgI_len]; omega)⟩
      obtain ⟨i, hi, rfl⟩ := List.mem_map.mp hp
      exact side_ok g (gl.rg (r.toCn.mem' i)) (gl.rg (r.toCn.mem' (i + 1))) (rgI_mem.mp hx)
end
end Rs
end

section
set_option Elab.async false
set_option linter.all false
set_option maxRecDepth 100000
set_option maxHeartbeats 1000000
set_option autoImplicit false
namespace Rs
open PySem
@[irreducible] def v_law_due_b5 (field_here : (List (Int × Int))) (its : (List (Int × Int))) (s6 : Unit) (x8 : (List Int)) : Lp D (Unit) := (if (!eqB (v_law_side field_here (gI x8 0) (gI x8 1) (gI x8 2)) (v_law_side its (gI x8 0) (gI x8 1) (gI x8 2))) = true then (Lp.rt (D.tup [(D.str (Str.ofString "apart")), (D.int (gI x8 0)), (D.int (gI x8 1)), (D.int (gI x8 2))])) else (Lp.nx ()))
@[irreducible] def ok_law_due_b5 (field_here : (List (Int × Int))) (its : (List (Int × Int))) (s6 : Unit) (x8 : (List Int)) : Prop := (x8.length = 3) ∧ (ok_law_side field_here (gI x8 0) (gI x8 1) (gI x8 2)) ∧ (ok_law_side its (gI x8 0) (gI x8 1) (gI x8 2)) ∧ ((!eqB (v_law_side field_here (gI x8 0) (gI x8 1) (gI x8 2)) (v_law_side its (gI x8 0) (gI x8 1) (gI x8 2))) = true → (cln DEP (D.tup [(D.str (Str.ofString "apart")), (D.int (gI x8 0)), (D.int (gI x8 1)), (D.int (gI x8 2))]) = true))
@[irreducible] def v_law_due (field_here : (List (Int × Int))) (its : (List (Int × Int))) : D := ((forV (v_law_due_b5 field_here its) (v_law_threesA (rgI 0 (field_here.length : Int))) ()).fin (fun s11 => (D.tup [(D.str (Str.ofString "alike"))])) (fun r => r))
@[irreducible] def ok_law_due (field_here : (List (Int × Int))) (its : (List (Int × Int))) : Prop := (-1000000 ≤ (field_here.length : Int) ∧ (field_here.length : Int) ≤ 1000000) ∧ (ok_law_threesA (rgI 0 (field_here.length : Int))) ∧ (forOk (v_law_due_b5 field_here its) (ok_law_due_b5 field_here its) (v_law_threesA (rgI 0 (field_here.length : Int))) ()) ∧ (∀ s11, (forV (v_law_due_b5 field_here its) (v_law_threesA (rgI 0 (field_here.length : Int))) ()) = .nx s11 → (cln DEP (D.tup [(D.str (Str.ofString "alike"))]) = true))
def v_law_others_found_9 (field_here : (List (Int × Int))) : (List (List (Int × Int))) := ([field_here, (field_here.map fun x1 => (((40 : Int) - x1.1), x1.2))] ++ [(field_here.map fun x7 => (((2 : Int) * x7.1), ((2 : Int) * x7.2)))])
def v_law_others_found_12 (field_here : (List (Int × Int))) : (List (List (Int × Int))) := ((v_law_others_found_9 field_here) ++ [(field_here.map fun x10 => (x10.1, (x10.1 + x10.2)))])
def v_law_others_j13 (q : Pen) (field_here : (List (Int × Int))) : (List (List (Int × Int))) × Pen := (if (decide (((2 : Int) * (maxV (field_here.map fun x3 => (maxV [x3.1, x3.2])))) ≤ (40 : Int))) = true then ((v_law_others_found_12 field_here), q) else ([field_here, (field_here.map fun x1 => (((40 : Int) - x1.1), x1.2))], q))
def v_law_others_t14 (q : Pen) (field_here : (List (Int × Int))) : Int × Pen := (v_law_draw (v_law_others_j13 q field_here).2 (field_here.length : Int))
def v_law_others_t15 (q : Pen) (field_here : (List (Int × Int))) : Int × Pen := (v_law_draw (v_law_others_t14 q field_here).2 (41 : Int))
def v_law_others_t16 (q : Pen) (field_here : (List (Int × Int))) : Int × Pen := (v_law_draw (v_law_others_t15 q field_here).2 (41 : Int))
def v_law_others_found_25 (q : Pen) (field_here : (List (Int × Int))) (s19 : (List (List (Int × Int))) × Pen) (x21 : (Int × Int)) : (List (List (Int × Int))) := (s19.1 ++ [(((cut field_here none (some (v_law_others_t14 q field_here).1)) ++ [x21]) ++ (cut field_here (some ((v_law_others_t14 q field_here).1 + (1 : Int))) none))])
@[irreducible] def v_law_others_b18 (q : Pen) (field_here : (List (Int × Int))) (s19 : (List (List (Int × Int))) × Pen) (x21 : (Int × Int)) : (List (List (Int × Int))) × Pen := (if ((decide ((0 : Int) ≤ (minV [x21.1, x21.2]))) && ((decide ((maxV [x21.1, x21.2]) ≤ (40 : Int))) && (v_law_is_free ((cut field_here none (some (v_law_others_t14 q field_here).1)) ++ (cut field_here (some ((v_law_others_t14 q field_here).1 + (1 : Int))) none)) x21))) = true then ((v_law_others_found_25 q field_here s19 x21), s19.2) else (s19.1, s19.2))
@[irreducible] def ok_law_others_b18 (q : Pen) (field_here : (List (Int × Int))) (s19 : (List (List (Int × Int))) × Pen) (x21 : (Int × Int)) : Prop := ((decide ((0 : Int) ≤ (minV [x21.1, x21.2]))) = true → ((decide ((maxV [x21.1, x21.2]) ≤ (40 : Int))) = true → (((cut field_here none (some (v_law_others_t14 q field_here).1)).length + (cut field_here (some ((v_law_others_t14 q field_here).1 + (1 : Int))) none).length ≤ LIM) ∧ (ok_law_is_free ((cut field_here none (some (v_law_others_t14 q field_here).1)) ++ (cut field_here (some ((v_law_others_t14 q field_here).1 + (1 : Int))) none)) x21)))) ∧ (((decide ((0 : Int) ≤ (minV [x21.1, x21.2]))) && ((decide ((maxV [x21.1, x21.2]) ≤ (40 : Int))) && (v_law_is_free ((cut field_here none (some (v_law_others_t14 q field_here).1)) ++ (cut field_here (some ((v_law_others_t14 q field_here).1 + (1 : Int))) none)) x21))) = true → (((cut field_here none (some (v_law_others_t14 q field_here).1)).length + [x21].length ≤ LIM) ∧ (((cut field_here none (some (v_law_others_t14 q field_here).1)) ++ [x21]).length + (cut field_here (some ((v_law_others_t14 q field_here).1 + (1 : Int))) none).length ≤ LIM) ∧ (s19.1.length < LIM)))
def v_law_others_l27 (q : Pen) (field_here : (List (Int × Int))) : (List (List (Int × Int))) × Pen := (List.foldl (v_law_others_b18 q field_here) ((v_law_others_j13 q field_here).1, (v_law_others_t16 q field_here).2) [(((gI field_here (v_law_others_t14 q field_here).1).1 + (1 : Int)), (gI field_here (v_law_others_t14 q field_here).1).2), (((gI field_here (v_law_others_t14 q field_here).1).1 - (1 : Int)), (gI field_here (v_law_others_t14 q field_here).1).2), ((gI field_here (v_law_others_t14 q field_here).1).1, ((gI field_here (v_law_others_t14 q field_here).1).2 + (1 : Int))), ((gI field_here (v_law_others_t14 q field_here).1).1, ((gI field_here (v_law_others_t14 q field_here).1).2 - (1 : Int))), ((v_law_others_t15 q field_here).1, (v_law_others_t16 q field_here).1)])
def v_law_others_t28 (q : Pen) (field_here : (List (Int × Int))) : (List (Int × Int)) × Pen := (v_law_field (v_law_others_l27 q field_here).2 (field_here.length : Int))
@[irreducible] def v_law_others (q : Pen) (field_here : (List (Int × Int))) : ((List (List (Int × Int))) × Pen) := (((v_law_others_l27 q field_here).1 ++ ((List.replicate (if (eqB ((v_law_others_t28 q field_here).1.length : Int) (field_here.length : Int)) = true then (1 : Int) else 0).toNat [(v_law_others_t28 q field_here).1]).flatten)), (v_law_others_t28 q field_here).2)
@[irreducible] def ok_law_others (q : Pen) (field_here : (List (Int × Int))) : Prop := (field_here.length ≤ LIM) ∧ (field_here.length ≤ LIM) ∧ ((field_here.map fun x3 => (maxV [x3.1, x3.2])) ≠ []) ∧ (mulOk (2 : Int) (maxV (field_here.map fun x3 => (maxV [x3.1, x3.2]))) = true) ∧ ((decide (((2 : Int) * (maxV (field_here.map fun x3 => (maxV [x3.1, x3.2])))) ≤ (40 : Int))) = true → ((∀ x7 ∈ field_here, ((mulOk (2 : Int) x7.1 = true) ∧ (mulOk (2 : Int) x7.2 = true))) ∧ (field_here.length ≤ LIM) ∧ ([field_here, (field_here.map fun x1 => (((40 : Int) - x1.1), x1.2))].length < LIM) ∧ (field_here.length ≤ LIM) ∧ ((v_law_others_found_9 field_here).length < LIM))) ∧ (ok_law_draw (v_law_others_j13 q field_here).2 (field_here.length : Int)) ∧ (okIx field_here (v_law_others_t14 q field_here).1) ∧ (ok_law_draw (v_law_others_t14 q field_here).2 (41 : Int)) ∧ (ok_law_draw (v_law_others_t15 q field_here).2 (41 : Int)) ∧ (fldOk (v_law_others_b18 q field_here) (ok_law_others_b18 q field_here) [(((gI field_here (v_law_others_t14 q field_here).1).1 + (1 : Int)), (gI field_here (v_law_others_t14 q field_here).1).2), (((gI field_here (v_law_others_t14 q field_here).1).1 - (1 : Int)), (gI field_here (v_law_others_t14 q field_here).1).2), ((gI field_here (v_law_others_t14 q field_here).1).1, ((gI field_here (v_law_others_t14 q field_here).1).2 + (1 : Int))), ((gI field_here (v_law_others_t14 q field_here).1).1, ((gI field_here (v_law_others_t14 q field_here).1).2 - (1 : Int))), ((v_law_others_t15 q field_here).1, (v_law_others_t16 q field_here).1)] ((v_law_others_j13 q field_here).1, (v_law_others_t16 q field_here).2)) ∧ (ok_law_field (v_law_others_l27 q field_here).2 (field_here.length : Int)) ∧ ((0 ≤ (if (eqB ((v_law_others_t28 q field_here).1.length : Int) (field_here.length : Int)) = true then (1 : Int) else 0) ∧ (if (eqB ((v_law_others_t28 q field_here).1.length : Int) (field_here.length : Int)) = true then (1 : Int) else 0) ≤ 1000) ∧ [(v_law_others_t28 q field_here).1].length ≤ 1000) ∧ ((v_law_others_l27 q field_here).1.length + ((List.replicate (if (eqB ((v_law_others_t28 q field_here).1.length : Int) (field_here.length : Int)) = true then (1 : Int) else 0).toNat [(v_law_others_t28 q field_here).1]).flatten).length ≤ LIM)
def v_lk03_t33 (s30 : Pen) : (List (Int × Int)) × Pen := (v_law_field s30 (8 : Int))
def v_lk03_t44 (s41 : Pen) (x43 : (List Int)) : (List Int) × Pen := (v_law_mixed s41 x43)
def v_lk03_t45 (s41 : Pen) (x43 : (List Int)) : (List Int) := (v_lk03_t44 s41 x43).1
def v_lk03_due_here_46 (s30 : Pen) (s41 : Pen) (x43 : (List Int)) : Int := (v_law_side (v_lk03_t33 s30).1 (gI (v_lk03_t45 s41 x43) 0) (gI (v_lk03_t45 s41 x43) 1) (gI (v_lk03_t45 s41 x43) 2))
def v_lk03_told_47 (s30 : Pen) (s41 : Pen) (x43 : (List Int)) : (List Int) := [(v_turn (v_lk03_t33 s30).1 (gI (v_lk03_t45 s41 x43) 0) (gI (v_lk03_t45 s41 x43) 1) (gI (v_lk03_t45 s41 x43) 2)), (v_turn (v_lk03_t33 s30).1 (gI (v_lk03_t45 s41 x43) 1) (gI (v_lk03_t45 s41 x43) 0) (gI (v_lk03_t45 s41 x43) 2)), (v_turn (v_lk03_t33 s30).1 (gI (v_lk03_t45 s41 x43) 2) (gI (v_lk03_t45 s41 x43) 0) (gI (v_lk03_t45 s41 x43) 1))]
@[irreducible] def v_lk03_b40 (script : (List Int)) (x17 : Int) (s30 : Pen) (x32 : Int) (s41 : Pen) (x43 : (List Int)) : Lp Bool (Pen) := (if (!(v_law_same ((eL D.int) (v_lk03_told_47 s30 s41 x43)) (D.lst [(D.int (v_lk03_due_here_46 s30 s41 x43)), (D.int ((0 : Int) - (v_lk03_due_here_46 s30 s41 x43))), (D.int (v_lk03_due_here_46 s30 s41 x43))]))) = true then (Lp.rt false) else (Lp.nx (v_lk03_t44 s41 x43).2))
@[irreducible] def ok_lk03_b40 (script : (List Int)) (x17 : Int) (s30 : Pen) (x32 : Int) (s41 : Pen) (x43 : (List Int)) : Prop := (ok_law_mixed s41 x43) ∧ ((v_lk03_t45 s41 x43).length = 3) ∧ (ok_law_side (v_lk03_t33 s30).1 (gI (v_lk03_t45 s41 x43) 0) (gI (v_lk03_t45 s41 x43) 1) (gI (v_lk03_t45 s41 x43) 2)) ∧ (ok_turn (v_lk03_t33 s30).1 (gI (v_lk03_t45 s41 x43) 0) (gI (v_lk03_t45 s41 x43) 1) (gI (v_lk03_t45 s41 x43) 2)) ∧ (ok_turn (v_lk03_t33 s30).1 (gI (v_lk03_t45 s41 x43) 1) (gI (v_lk03_t45 s41 x43) 0) (gI (v_lk03_t45 s41 x43) 2)) ∧ (ok_turn (v_lk03_t33 s30).1 (gI (v_lk03_t45 s41 x43) 2) (gI (v_lk03_t45 s41 x43) 0) (gI (v_lk03_t45 s41 x43) 1)) ∧ (ok_law_same ((eL D.int) (v_lk03_told_47 s30 s41 x43)) (D.lst [(D.int (v_lk03_due_here_46 s30 s41 x43)), (D.int ((0 : Int) - (v_lk03_due_here_46 s30 s41 x43))), (D.int (v_lk03_due_here_46 s30 s41 x43))]))
def v_lk03_t51 (s30 : Pen) (s50 : Pen) : (List (List (Int × Int))) × Pen := (v_law_others s50 (v_lk03_t33 s30).1)
@[irreducible] def v_lk03_b56 (script : (List Int)) (x17 : Int) (s30 : Pen) (x32 : Int) (s57 : Pen) (x59 : (List (Int × Int))) : Lp Bool (Pen) := (if ((!(v_law_same ((eL eD) ((rgI 0 (2 : Int)).map fun x60 => (v_alike (v_lk03_t33 s30).1 x59))) (D.lst [(v_law_due (v_lk03_t33 s30).1 x59), (v_law_due (v_lk03_t33 s30).1 x59)]))) || (!eqB (txt ((eT (e2 D.int D.int)) x59)) (txt ((eT (e2 D.int D.int)) x59)))) = true then (Lp.rt false) else (Lp.nx s57))
@[irreducible] def ok_lk03_b56 (script : (List Int)) (x17 : Int) (s30 : Pen) (x32 : Int) (s57 : Pen) (x59 : (List (Int × Int))) : Prop := (rpOk ((eT (e2 D.int D.int)) x59)) ∧ (ok_law_due (v_lk03_t33 s30).1 x59) ∧ (∀ x60 ∈ (rgI 0 (2 : Int)), (ok_alike (v_lk03_t33 s30).1 x59)) ∧ ((rgI 0 (2 : Int)).length ≤ LIM) ∧ (ok_law_same ((eL eD) ((rgI 0 (2 : Int)).map fun x60 => (v_alike (v_lk03_t33 s30).1 x59))) (D.lst [(v_law_due (v_lk03_t33 s30).1 x59), (v_law_due (v_lk03_t33 s30).1 x59)])) ∧ ((!(v_law_same ((eL eD) ((rgI 0 (2 : Int)).map fun x60 => (v_alike (v_lk03_t33 s30).1 x59))) (D.lst [(v_law_due (v_lk03_t33 s30).1 x59), (v_law_due (v_lk03_t33 s30).1 x59)]))) = false → (rpOk ((eT (e2 D.int D.int)) x59)))
@[irreducible] def v_lk03_b29 (script : (List Int)) (x17 : Int) (s30 : Pen) (x32 : Int) : Lp Bool (Pen) := ((forV (v_lk03_b40 script x17 s30 x32) (v_law_threesA (rgI 0 ((v_lk03_t33 s30).1.length : Int))) (v_lk03_t33 s30).2).fin (fun s50 => ((forV (v_lk03_b56 script x17 s30 x32) (v_lk03_t51 s30 s50).1 (v_lk03_t51 s30 s50).2).fin (fun s65 => (if (!eqB (txt ((eT (e2 D.int D.int)) (v_lk03_t33 s30).1)) (txt ((eT (e2 D.int D.int)) (v_lk03_t33 s30).1))) = true then (Lp.rt false) else (Lp.nx s65))) (fun r => Lp.rt r))) (fun r => Lp.rt r))
@[irreducible] def ok_lk03_b29 (script : (List Int)) (x17 : Int) (s30 : Pen) (x32 : Int) : Prop := (ok_law_field s30 (8 : Int)) ∧ (rpOk ((eT (e2 D.int D.int)) (v_lk03_t33 s30).1)) ∧ (-1000000 ≤ ((v_lk03_t33 s30).1.length : Int) ∧ ((v_lk03_t33 s30).1.length : Int) ≤ 1000000) ∧ (ok_law_threesA (rgI 0 ((v_lk03_t33 s30).1.length : Int))) ∧ (forOk (v_lk03_b40 script x17 s30 x32) (ok_lk03_b40 script x17 s30 x32) (v_law_threesA (rgI 0 ((v_lk03_t33 s30).1.length : Int))) (v_lk03_t33 s30).2) ∧ (∀ s50, (forV (v_lk03_b40 script x17 s30 x32) (v_law_threesA (rgI 0 ((v_lk03_t33 s30).1.length : Int))) (v_lk03_t33 s30).2) = .nx s50 → ((ok_law_others s50 (v_lk03_t33 s30).1) ∧ (forOk (v_lk03_b56 script x17 s30 x32) (ok_lk03_b56 script x17 s30 x32) (v_lk03_t51 s30 s50).1 (v_lk03_t51 s30 s50).2) ∧ (∀ s65, (forV (v_lk03_b56 script x17 s30 x32) (v_lk03_t51 s30 s50).1 (v_lk03_t51 s30 s50).2) = .nx s65 → (rpOk ((eT (e2 D.int D.int)) (v_lk03_t33 s30).1)))))
@[irreducible] def v_lk03_b14 (script : (List Int)) (s15 : Unit) (x17 : Int) : Lp Bool (Unit) := ((forV (v_lk03_b29 script x17) (rgI 0 (3 : Int)) (penV (v_law_cell_at script x17))).fin (fun s68 => (Lp.nx ())) (fun r => Lp.rt r))
@[irreducible] def ok_lk03_b14 (script : (List Int)) (s15 : Unit) (x17 : Int) : Prop := (ok_law_cell_at script x17) ∧ (forOk (v_lk03_b29 script x17) (ok_lk03_b29 script x17) (rgI 0 (3 : Int)) (penV (v_law_cell_at script x17)))
@[irreducible] def v_lk03 (script : (List Int)) : Bool := ((forV (v_lk03_b14 script) (rgI 0 (if (if (3 : Int) < (script.length : Int) then (3 : Int) else (script.length : Int)) > (1 : Int) then (if (3 : Int) < (script.length : Int) then (3 : Int) else (script.length : Int)) else (1 : Int))) ()).fin (fun s70 => true) (fun r => r))
@[irreducible] def ok_lk03 (script : (List Int)) : Prop := (-1000000 ≤ (if (if (3 : Int) < (script.length : Int) then (3 : Int) else (script.length : Int)) > (1 : Int) then (if (3 : Int) < (script.length : Int) then (3 : Int) else (script.length : Int)) else (1 : Int)) ∧ (if (if (3 : Int) < (script.length : Int) then (3 : Int) else (script.length : Int)) > (1 : Int) then (if (3 : Int) < (script.length : Int) then (3 : Int) else (script.length : Int)) else (1 : Int)) ≤ 1000000) ∧ (forOk (v_lk03_b14 script) (ok_lk03_b14 script) (rgI 0 (if (if (3 : Int) < (script.length : Int) then (3 : Int) else (script.length : Int)) > (1 : Int) then (if (3 : Int) < (script.length : Int) then (3 : Int) else (script.length : Int)) else (1 : Int))) ())
end Rs
end

section
set_option Elab.async false
set_option linter.all false
set_option maxRecDepth 100000
set_option maxHeartbeats 1000000
set_option autoImplicit false
/-! Lk03P: turns and alike, by hand. Own work. -/
namespace Rs
open PySem
/-! ### a three in some order -/
theorem mixed_good (q : Pen) (some_ : List Int) (h : some_.length ≤ 8) : ok_law_mixed q some_ ∧ (v_law_mixed q some_).1.Perm some_ := by
  have key := fld_cnt (step := v_law_mixed_b2 q some_) (ok := ok_law_mixed_b2 q some_) some_.length (fun k s => s.1.length + k = some_.length ∧ s.2.1.length = k ∧ (s.2.1 ++ s.1).Perm some_) (rgI 0 (some_.length : Int)) 0 (some_, [], q)
    (by rw [rgI_len]; omega) ⟨rfl, rfl, List.Perm.refl _⟩ (fun k s hk hI x _ => by
      obtain ⟨h1, h2, h3⟩ := hI
      have hd : 0 < (s.1.length : Int) ∧ (s.1.length : Int) < 1073741824 := by omega
      have hb := draw_bd (q := s.2.2) hd.1
      obtain ⟨p1, p2⟩ := popI_perm (xs := s.1) hb
      constructor
      · unfold ok_law_mixed_b2
        exact ⟨hd, okI_of hb, lim_of (by omega), by unfold LIM; omega⟩
      · unfold v_law_mixed_b2 v_law_mixed_t6
        refine ⟨?_, ?_, ?_⟩
        · show (popI s.1 _).length + (k + 1) = _
          omega
        · show (s.2.1 ++ [_]).length = k + 1
          rw [List.length_append, h2]; rfl
        · show ((s.2.1 ++ [gI s.1 _]) ++ popI s.1 _).Perm some_
          rw [List.append_assoc]
          exact (List.Perm.append_left s.2.1 p1).trans h3)
  have hl : (rgI 0 (some_.length : Int)).length = some_.length := by rw [rgI_len]; omega
  rw [hl, Nat.zero_add] at key
  obtain ⟨h1, h2, h3, h4⟩ := key
  constructor
  · unfold ok_law_mixed
    exact ⟨⟨by omega, by omega⟩, h1⟩
  · unfold v_law_mixed v_law_mixed_l8
    have h5 : ((rgI 0 (some_.length : Int)).foldl (v_law_mixed_b2 q some_) (some_, [], q)).1 = [] := List.eq_nil_of_length_eq_zero (by omega)
    rw [h5, List.append_nil] at h4
    exact h4
/-! ### turns -/
theorem turn_ok {F : Fd} (g : GF F) {a b c : Int} (ha : rg F a) (hb : rg F b) (hc : rg F c) (h1 : a ≠ b) (h2 : b ≠ c) (h3 : a ≠ c) : ok_turn F a b c := by
  unfold ok_turn
  have := g.few
  have hl : (rgI 0 (F.length : Int)).length ≤ LIM := lim_of (by rw [rgI_len]; omega)
  unfold rg at ha hb hc
  refine ⟨need_field_ok g, ⟨by omega, by omega⟩, need_stakeA_ok (rgI_mem.mpr ha), hl, need_stakeA_ok (List.mem_filter.mpr ⟨rgI_mem.mpr hb, by simp; exact fun z => h1 z.symm⟩), hl, need_stakeA_ok (List.mem_filter.mpr ⟨rgI_mem.mpr hc, by simp; exact ⟨fun z => h3 z.symm, fun z => h2 z.symm⟩⟩), side_ok g ha hb hc⟩
theorem v_turn_eq : v_turn = v_side := by
  funext a b c d; unfold v_turn; rfl
theorem side_flip (F : Fd) (a b c : Int) : v_side F b a c = 0 - v_side F a b c := by
  have h := tb_anti F a b c
  rcases Int.lt_trichotomy (tb F a b c) 0 with h1 | h1 | h1
  · rw [side_neg.mpr h1, side_pos.mpr (by omega)]; rfl
  · rw [side_zero.mpr h1, side_zero.mpr (by omega)]; rfl
  · rw [side_pos.mpr h1, side_neg.mpr (by omega)]; rfl
theorem side_turn (F : Fd) (a b c : Int) : v_side F c a b = v_side F a b c := by
  have h := tb_rot F c a b
  rcases Int.lt_trichotomy (tb F a b c) 0 with h1 | h1 | h1
  · rw [side_neg.mpr h1, side_neg.mpr (by omega)]
  · rw [side_zero.mpr h1, side_zero.mpr (by omega)]
  · rw [side_pos.mpr h1, side_pos.mpr (by omega)]
theorem side_abs (F : Fd) (a b c : Int) : -1 ≤ v_side F a b c ∧ v_side F a b c ≤ 1 := by
  rcases Int.lt_trichotomy (tb F a b c) 0 with h1 | h1 | h1
  · rw [side_neg.mpr h1]; decide
  · rw [side_zero.mpr h1]; decide
  · rw [side_pos.mpr h1]; decide
theorem sz_three' {x y z : D} {n c : Nat} (h1 : SZ x n c) (h2 : SZ y n c) (h3 : SZ z n c) : SZ (.lst [x, y, z]) (n + 1) (3 * (c + 2) + 3) :=
  sz_lst fun w hw => by
    simp at hw
    rcases hw with rfl | rfl | rfl <;> assumption
theorem k03_turn (script : List Int) (x17 : Int) (s30 : Pen) (x32 : Int) (s41 : Pen) (t : List Int) (g : GF (v_lk03_t33 s30).1) (ht : inc3 (rgI 0 ((v_lk03_t33 s30).1.length : Int)) t) :
    ok_lk03_b40 script x17 s30 x32 s41 t ∧ ∃ s', v_lk03_b40 script x17 s30 x32 s41 t = .nx s' ∧ True := by
  obtain ⟨a, ha, b, hb, c, hc, hab, hbc, rfl⟩ := ht
  obtain ⟨m1, m2⟩ := mixed_good s41 [a, b, c] (by show 3 ≤ 8; decide)
  have hl := m2.length_eq
  have hnd : (v_law_mixed s41 [a, b, c]).1.Nodup := m2.nodup_iff.mpr (by simp; omega)
  have hm : ∀ x ∈ (v_law_mixed s41 [a, b, c]).1, rg (v_lk03_t33 s30).1 x := fun x hx => by
    have := m2.mem_iff.mp hx
    simp at this
    rcases this with rfl | rfl | rfl
    · exact rgI_mem.mp ha
    · exact rgI_mem.mp hb
    · exact rgI_mem.mp hc
  have e0 : v_lk03_t45 s41 [a, b, c] = (v_law_mixed s41 [a, b, c]).1 := rfl
  generalize hz : (v_law_mixed s41 [a, b, c]).1 = M at hl hnd hm e0
  match M, hl with
  | [x, y, z], _ =>
    have nd : x ≠ y ∧ x ≠ z ∧ y ≠ z := by simp at hnd; omega
    have hx := hm x (by simp)
    have hy := hm y (by simp)
    have hzz := hm z (by simp)
    have e1 : v_lk03_due_here_46 s30 s41 [a, b, c] = v_side (v_lk03_t33 s30).1 x y z := by
      unfold v_lk03_due_here_46
      rw [e0, law_side_eq]; rfl
    have e2 : v_lk03_told_47 s30 s41 [a, b, c] = [v_side (v_lk03_t33 s30).1 x y z, 0 - v_side (v_lk03_t33 s30).1 x y z, v_side (v_lk03_t33 s30).1 x y z] := by
      unfold v_lk03_told_47
      rw [e0, v_turn_eq]
      show [v_side (v_lk03_t33 s30).1 x y z, v_side (v_lk03_t33 s30).1 y x z, v_side (v_lk03_t33 s30).1 z x y] = _
      rw [side_flip (v_lk03_t33 s30).1 x y z, side_turn (v_lk03_t33 s30).1 x y z]
    have hs := side_abs (v_lk03_t33 s30).1 x y z
    have hrp : rpOk (D.lst [D.int (v_side (v_lk03_t33 s30).1 x y z), D.int (0 - v_side (v_lk03_t33 s30).1 x y z), D.int (v_side (v_lk03_t33 s30).1 x y z)]) :=
      sz_rp (sz_three' (n := 29) (sz_small (by omega)) (sz_small (by omega)) (sz_small (by omega))) (by decide)
    obtain ⟨s1, s2⟩ := same_self hrp
    constructor
    · unfold ok_lk03_b40
      rw [e1, e2, e0]
      refine ⟨m1, rfl, ?_, turn_ok g hx hy hzz nd.1 nd.2.2 nd.2.1, turn_ok g hy hx hzz (fun w => nd.1 w.symm) nd.2.1 nd.2.2, turn_ok g hzz hx hy (fun w => nd.2.1 w.symm) nd.1 (fun w => nd.2.2 w.symm), s2⟩
      rw [law_side_ok]
      exact side_ok g hx hy hzz
    · unfold v_lk03_b40
      rw [e1, e2]
      have s1 : v_law_same (eL D.int [v_side (v_lk03_t33 s30).1 x y z, 0 - v_side (v_lk03_t33 s30).1 x y z, v_side (v_lk03_t33 s30).1 x y z]) (D.lst [D.int (v_side (v_lk03_t33 s30).1 x y z), D.int (0 - v_side (v_lk03_t33 s30).1 x y z), D.int (v_side (v_lk03_t33 s30).1 x y z)]) = true := s1
      rw [s1]
      exact ⟨_, rfl, trivial⟩
/-! ### other fields -/
theorem mirror_good {F : Fd} (g : GF F) : GF (F.map fun x => ((40 : Int) - x.1, x.2)) := by
  refine (g.gp.map (fun p hp => ?_) (fun p q h => ?_) (fun p q r h => ?_)).gf (by rw [List.length_map]; exact g.pos) (by rw [List.length_map]; exact g.few)
  · have := g.box p hp
    unfold inBox
    show (0 ≤ 40 - p.1 ∧ 40 - p.1 ≤ 40) ∧ _
    omega
  · have h := Prod.mk.inj h
    exact Prod.ext (by omega) h.2
  · unfold v_bend at h ⊢
    grind
theorem double_good {F : Fd} (g : GF F) (hm : ∀ p ∈ F, 2 * p.1 ≤ 40 ∧ 2 * p.2 ≤ 40) : GF (F.map fun x => ((2 : Int) * x.1, (2 : Int) * x.2)) := by
  refine (g.gp.map (fun p hp => ?_) (fun p q h => ?_) (fun p q r h => ?_)).gf (by rw [List.length_map]; exact g.pos) (by rw [List.length_map]; exact g.few)
  · have := g.box p hp
    have := hm p hp
    unfold inBox
    show (0 ≤ 2 * p.1 ∧ 2 * p.1 ≤ 40) ∧ 0 ≤ 2 * p.2 ∧ 2 * p.2 ≤ 40
    omega
  · have h := Prod.mk.inj h
    exact Prod.ext (by omega) (by omega)
  · unfold v_bend at h ⊢
    grind
theorem shear_good {F : Fd} (g : GF F) (hm : ∀ p ∈ F, 2 * p.1 ≤ 40 ∧ 2 * p.2 ≤ 40) : GF (F.map fun x => (x.1, x.1 + x.2)) := by
  refine (g.gp.map (fun p hp => ?_) (fun p q h => ?_) (fun p q r h => ?_)).gf (by rw [List.length_map]; exact g.pos) (by rw [List.length_map]; exact g.few)
  · have := g.box p hp
    have := hm p hp
    unfold inBox
    show (0 ≤ p.1 ∧ p.1 ≤ 40) ∧ 0 ≤ p.1 + p.2 ∧ p.1 + p.2 ≤ 40
    omega
  · have h := Prod.mk.inj h
    have h1 : p.1 = q.1 := h.1
    exact Prod.ext h1 (by have h2 := h.2; omega)
  · unfold v_bend at h ⊢
    grind
/-- fields of as many stakes -/
def Sib (F : Fd) (Gs : List Fd) : Prop := ∀ G ∈ Gs, GF G ∧ G.length = F.length
theorem Sib.snoc {F : Fd} {Gs : List Fd} (h : Sib F Gs) {G : Fd} (hg : GF G) (hl : G.length = F.length) : Sib F (Gs ++ [G]) := fun x hx => by
  rcases List.mem_append.mp hx with hx | hx
  · exact h x hx
  · rw [List.mem_singleton.mp hx]; exact ⟨hg, hl⟩
theorem top_iff (F : Fd) : ∀ p ∈ F, p.1 ≤ maxV (F.map fun x => maxV [x.1, x.2]) ∧ p.2 ≤ maxV (F.map fun x => maxV [x.1, x.2]) := fun p hp => by
  have h := le_maxV (List.mem_map_of_mem (f := fun x : Int × Int => maxV [x.1, x.2]) hp)
  have h1 : p.1 ≤ maxV [p.1, p.2] := le_maxV (by simp)
  have h2 : p.2 ≤ maxV [p.1, p.2] := le_maxV (by simp)
  exact ⟨Int.le_trans h1 h, Int.le_trans h2 h⟩
theorem top_bd {F : Fd} (g : GF F) : 0 ≤ maxV (F.map fun x => maxV [x.1, x.2]) ∧ maxV (F.map fun x => maxV [x.1, x.2]) ≤ 40 := by
  have hn : (F.map fun x => maxV [x.1, x.2]) ≠ [] := by
    have := g.pos
    intro z
    have z := congrArg List.length z
    rw [List.length_map] at z
    simp at z
    rw [z] at this
    simp at this
  obtain ⟨p, hp, e⟩ := List.mem_map.mp (maxV_mem hn)
  rw [← e]
  have hb := g.box p hp
  have := maxV_mem (xs := [p.1, p.2]) (by simp)
  simp at this
  rcases this with h | h <;> rw [h] <;> omega
theorem base_good (q : Pen) {F : Fd} (g : GF F) : Sib F (v_law_others_j13 q F).1 ∧ (v_law_others_j13 q F).1.length ≤ 4 ∧ (v_law_others_j13 q F).2 = q := by
  have two : Sib F [F, F.map fun x => ((40 : Int) - x.1, x.2)] := fun G hG => by
    simp only [List.mem_cons, List.not_mem_nil, or_false] at hG
    rcases hG with rfl | rfl
    · exact ⟨g, rfl⟩
    · exact ⟨mirror_good g, List.length_map ..⟩
  unfold v_law_others_j13
  by_cases h : (decide ((2 : Int) * maxV (F.map fun x3 => maxV [x3.1, x3.2]) ≤ 40)) = true
  · rw [if_pos h]
    have h := of_decide_eq_true h
    have hm : ∀ p ∈ F, 2 * p.1 ≤ 40 ∧ 2 * p.2 ≤ 40 := fun p hp => by
      have := top_iff F p hp
      omega
    unfold v_law_others_found_12 v_law_others_found_9
    exact ⟨(two.snoc (double_good g hm) (List.length_map ..)).snoc (shear_good g hm) (List.length_map ..), by show 4 ≤ 4; decide, rfl⟩
  · rw [if_neg h]
    exact ⟨two, by show 2 ≤ 4; decide, rfl⟩
theorem near_turn (q : Pen) {F : Fd} (g : GF F) (N k : Nat) (hN : N ≤ 20) (s : List Fd × Pen) (p : Int × Int) (hk : k < N) (hI : Sib F s.1 ∧ s.1.length ≤ 4 + k) :
    ok_law_others_b18 q F s p ∧ Sib F (v_law_others_b18 q F s p).1 ∧ (v_law_others_b18 q F s p).1.length ≤ 4 + (k + 1) := by
  have hf := g.few
  have hd : 0 < (F.length : Int) := by have := g.pos; omega
  have hb : 0 ≤ (v_law_others_t14 q F).1 ∧ (v_law_others_t14 q F).1 < F.length := draw_bd hd
  obtain ⟨c1, c2, c3⟩ := cut_swap hb p
  have hlen := c1.length_le
  rw [List.length_append] at hlen
  have hl3 := c3
  rw [List.length_append, List.length_append] at hl3
  have hl4 : [p].length = 1 := rfl
  constructor
  · unfold ok_law_others_b18
    refine ⟨fun _ _ => ⟨lim_of (by omega), is_free_ok (fun x hx => g.box x (c1.subset hx)) (by rw [List.length_append]; omega)⟩, fun _ => ⟨lim_of (by omega), lim_of (by rw [List.length_append]; omega), by unfold LIM; omega⟩⟩
  · unfold v_law_others_b18
    by_cases h : (decide ((0 : Int) ≤ minV [p.1, p.2]) && (decide (maxV [p.1, p.2] ≤ 40) && v_law_is_free (cut F none (some (v_law_others_t14 q F).1) ++ cut F (some ((v_law_others_t14 q F).1 + 1)) none) p)) = true
    · rw [if_pos h]
      rw [Bool.and_eq_true, Bool.and_eq_true, decide_eq_true_iff, decide_eq_true_iff, is_free_iff] at h
      obtain ⟨h1, h2, h3⟩ := h
      have m1 : minV [p.1, p.2] ≤ p.1 := minV_le (by simp)
      have m2 : minV [p.1, p.2] ≤ p.2 := minV_le (by simp)
      have m3 : p.1 ≤ maxV [p.1, p.2] := le_maxV (by simp)
      have m4 : p.2 ≤ maxV [p.1, p.2] := le_maxV (by simp)
      have hbx : inBox p := by unfold inBox; omega
      unfold v_law_others_found_25
      refine ⟨hI.1.snoc (g.swap hb hbx h3) c3, ?_⟩
      show (s.1 ++ [_]).length ≤ _
      rw [List.length_append]
      have := hI.2
      show s.1.length + 1 ≤ _
      omega
    · rw [if_neg h]
      exact ⟨hI.1, by have := hI.2; show s.1.length ≤ _; omega⟩
theorem others_good (q : Pen) {F : Fd} (g : GF F) : ok_law_others q F ∧ Sib F (v_law_others q F).1 := by
  have hf := g.few
  have hp := g.pos
  have hd : 0 < (F.length : Int) ∧ (F.length : Int) < 1073741824 := by omega
  obtain ⟨b1, b2, b3⟩ := base_good q g
  have ht := top_bd g
  have hk : 0 ≤ (v_law_others_t14 q F).1 ∧ (v_law_others_t14 q F).1 < F.length := draw_bd hd.1
  have key := fld_cnt (step := v_law_others_b18 q F) (ok := ok_law_others_b18 q F) 5 (fun k s => Sib F s.1 ∧ s.1.length ≤ 4 + k) [(((gI F (v_law_others_t14 q F).1).1 + (1 : Int)), (gI F (v_law_others_t14 q F).1).2), (((gI F (v_law_others_t14 q F).1).1 - (1 : Int)), (gI F (v_law_others_t14 q F).1).2), ((gI F (v_law_others_t14 q F).1).1, ((gI F (v_law_others_t14 q F).1).2 + (1 : Int))), ((gI F (v_law_others_t14 q F).1).1, ((gI F (v_law_others_t14 q F).1).2 - (1 : Int))), ((v_law_others_t15 q F).1, (v_law_others_t16 q F).1)] 0 ((v_law_others_j13 q F).1, (v_law_others_t16 q F).2) (by show 0 + 5 ≤ 5; decide) ⟨b1, b2⟩ (fun k s hk hI p _ => near_turn q g 5 k (by decide) s p hk hI)
  obtain ⟨k1, k2, k3⟩ := key
  have k2 : Sib F (v_law_others_l27 q F).1 := k2
  have k3 : (v_law_others_l27 q F).1.length ≤ 9 := k3
  obtain ⟨f1, f2, f3⟩ := field_good (v_law_others_l27 q F).2 (most := F.length) (by omega)
  have hif : ∀ b : Bool, (0 : Int) ≤ (if b = true then (1 : Int) else 0) ∧ (if b = true then (1 : Int) else 0) ≤ 1 := by decide
  constructor
  · unfold ok_law_others
    have hm : mulOk (2 : Int) (maxV (F.map fun x3 => maxV [x3.1, x3.2])) = true := mulOk_l (by decide)
    refine ⟨lim_of (by omega), lim_of (by omega), ?_, hm, ?_, hd, okI_of hk, ⟨by decide, by decide⟩, ⟨by decide, by decide⟩, k1, f1, ⟨?_, ?_⟩, ?_⟩
    · intro z
      have z := congrArg List.length z
      rw [List.length_map] at z
      simp at z
      rw [z] at hp
      simp at hp
    · intro _
      refine ⟨fun x _ => ⟨mulOk_l (by decide), mulOk_l (by decide)⟩, lim_of (by omega), ?_, lim_of (by omega), ?_⟩
      · show 2 < 100000; decide
      · show 3 < 100000; decide
    · have := hif (eqB ((v_law_others_t28 q F).1.length : Int) (F.length : Int))
      omega
    · show 1 ≤ 1000; decide
    · have := hif (eqB ((v_law_others_t28 q F).1.length : Int) (F.length : Int))
      refine lim_of ?_
      generalize (if eqB ((v_law_others_t28 q F).1.length : Int) (F.length : Int) = true then (1 : Int) else 0) = n at this
      have hn : n = 0 ∨ n = 1 := by omega
      rcases hn with rfl | rfl
      · show (v_law_others_l27 q F).1.length + 0 ≤ _
        omega
      · show (v_law_others_l27 q F).1.length + 1 ≤ _
        omega
  · unfold v_law_others
    by_cases h : eqB ((v_law_others_t28 q F).1.length : Int) (F.length : Int) = true
    · rw [if_pos h]
      have e : ((v_law_others_t28 q F).1.length : Int) = (F.length : Int) := eqB_iff.mp h
      exact k2.snoc (G := (v_law_others_t28 q F).1) f2 (by omega)
    · rw [if_neg h]
      show Sib F ((v_law_others_l27 q F).1 ++ [])
      rw [List.append_nil]
      exact k2
/-! ### alike -/
def Told (d : D) : Prop := SZ d 28 100 ∧ cln DEP d = true
theorem sz_apart (n : Nat) : SZ (.str (Str.ofString "apart")) n 7 := ⟨by cases n <;> rfl, by decide +kernel⟩
theorem sz_alike (n : Nat) : SZ (.str (Str.ofString "alike")) n 7 := ⟨by cases n <;> rfl, by decide +kernel⟩
theorem told_alike : Told (D.tup [D.str (Str.ofString "alike")]) :=
  ⟨(sz_tup (n := 27) (b := 7) fun x hx => by rw [List.mem_singleton.mp hx]; exact sz_alike _).le (by decide), rfl⟩
theorem told_apart {a b c : Int} (ha : -1000000 < a ∧ a < 1000000) (hb : -1000000 < b ∧ b < 1000000) (hc : -1000000 < c ∧ c < 1000000) : Told (D.tup [D.str (Str.ofString "apart"), D.int a, D.int b, D.int c]) :=
  ⟨(sz_tup (n := 27) (b := 7) fun x hx => by
    simp only [List.mem_cons, List.not_mem_nil, or_false] at hx
    rcases hx with rfl | rfl | rfl | rfl
    · exact sz_apart _
    · exact sz_small ha
    · exact sz_small hb
    · exact sz_small hc).le (by show 4 * (7 + 2) + 3 ≤ 100; decide), rfl⟩
theorem for_told {α : Type} {step : Unit → α → Lp D Unit} {xs : List α} (h : ∀ x ∈ xs, (∃ d, step () x = .rt d ∧ Told d) ∨ step () x = .nx ()) : Told ((forV step xs ()).fin (fun _ => D.tup [D.str (Str.ofString "alike")]) fun r => r) := by
  induction xs with
  | nil => exact told_alike
  | cons x xs ih =>
    unfold forV
    rcases h x List.mem_cons_self with ⟨d, e, hd⟩ | e
    · rw [e]; exact hd
    · rw [e]; exact ih fun y hy => h y (List.mem_cons_of_mem _ hy)
theorem alike_good {F G : Fd} (g : GF F) (h : GF G) (hl : G.length = F.length) : ok_alike F G ∧ ok_law_due F G ∧ v_law_due F G = v_alike F G ∧ Told (v_alike F G) := by
  have hf := g.few
  have mem : ∀ t ∈ v_threes (F.length : Int), (rg F t.1 ∧ rg F t.2.1 ∧ rg F t.2.2) ∧ (rg G t.1 ∧ rg G t.2.1 ∧ rg G t.2.2) := fun t ht => by
    have := mem_threes_p.mp ht
    unfold rg
    omega
  have told : ∀ t ∈ v_threes (F.length : Int), Told (D.tup [D.str (Str.ofString "apart"), D.int t.1, D.int t.2.1, D.int t.2.2]) := fun t ht => by
    have := mem_threes_p.mp ht
    exact told_apart (by omega) (by omega) (by omega)
  have e3 := threes_list F.length hf
  have e5 : ∀ (s : Unit), ∀ t ∈ v_threes (F.length : Int), v_law_due_b5 F G s [t.1, t.2.1, t.2.2] = v_alike_b5 F G s t := fun s t _ => by
    unfold v_law_due_b5 v_alike_b5
    rw [law_side_eq]
    rfl
  have ef := forV_map (f := v_law_due_b5 F G) (g := v_alike_b5 F G) (m := fun t : Int × Int × Int => [t.1, t.2.1, t.2.2]) (v_threes (F.length : Int)) () e5
  refine ⟨?_, ?_, ?_, ?_⟩
  · unfold ok_alike
    refine ⟨need_field_ok g, need_field_ok h, by rw [hl]; simp, threes_ok_p hf, forOk_all _ _ fun s t ht => ?_, fun _ _ => told_alike.2⟩
    obtain ⟨⟨a1, a2, a3⟩, c1, c2, c3⟩ := mem t ht
    unfold ok_alike_b5
    exact ⟨side_ok g a1 a2 a3, side_ok h c1 c2 c3, fun _ => (told t ht).2⟩
  · unfold ok_law_due
    refine ⟨⟨by omega, by omega⟩, by rw [law_threesA_ok]; exact threes_ok hf (GL.every _), forOk_all _ _ fun s t ht => ?_, fun _ _ => told_alike.2⟩
    rw [law_threesA_eq, e3] at ht
    obtain ⟨u, hu, rfl⟩ := List.mem_map.mp ht
    obtain ⟨⟨a1, a2, a3⟩, c1, c2, c3⟩ := mem u hu
    unfold ok_law_due_b5
    rw [law_side_ok]
    exact ⟨rfl, side_ok g a1 a2 a3, side_ok h c1 c2 c3, fun _ => (told u hu).2⟩
  · unfold v_law_due v_alike
    rw [law_threesA_eq, e3, ef]
  · unfold v_alike
    refine for_told fun t ht => ?_
    unfold v_alike_b5
    by_cases hc : (!eqB (v_side F t.1 t.2.1 t.2.2) (v_side G t.1 t.2.1 t.2.2)) = true
    · rw [if_pos hc]; exact .inl ⟨_, rfl, told t ht⟩
    · rw [if_neg hc]; exact .inr rfl
theorem rp_field {F : Fd} (g : GF F) : rpOk (eT (e2 D.int D.int) F) := sz_rp (sz_field g 28) (by decide)
theorem k03_other (script : List Int) (x17 : Int) (s30 : Pen) (x32 : Int) (s57 : Pen) (G : Fd) (g : GF (v_lk03_t33 s30).1) (h : GF G) (hl : G.length = (v_lk03_t33 s30).1.length) :
    ok_lk03_b56 script x17 s30 x32 s57 G ∧ ∃ s', v_lk03_b56 script x17 s30 x32 s57 G = .nx s' ∧ True := by
  obtain ⟨h1, h2, h3, h4⟩ := alike_good g h hl
  have hrg : rgI 0 (2 : Int) = [0, 1] := by decide
  have hrp : rpOk (D.lst [v_alike (v_lk03_t33 s30).1 G, v_alike (v_lk03_t33 s30).1 G]) := sz_rp (sz_two' (n := 29) (sz_up (by decide) h4.1) (sz_up (by decide) h4.1)) (by decide)
  obtain ⟨s1, s2⟩ := same_self hrp
  have hh := rp_field h
  have et : eL eD ((rgI 0 2).map fun _ => v_alike (v_lk03_t33 s30).1 G) = D.lst [v_alike (v_lk03_t33 s30).1 G, v_alike (v_lk03_t33 s30).1 G] := by rw [hrg]; rfl
  constructor
  · unfold ok_lk03_b56
    rw [h3, et]
    exact ⟨hh, h2, fun _ _ => h1, lim_of (by rw [hrg]; decide), s2, fun _ => hh⟩
  · unfold v_lk03_b56
    rw [h3, et, s1]
    refine ⟨s57, ?_, trivial⟩
    simp
theorem k03_good (ns : List Int) : ok_lk03 ns ∧ v_lk03 ns = true := by
  have b29 : ∀ x17 s30 x32, ok_lk03_b29 ns x17 s30 x32 ∧ ∃ s', v_lk03_b29 ns x17 s30 x32 = .nx s' ∧ True := by
    intro x17 s30 x32
    obtain ⟨f1, f2, f3⟩ := field_good s30 (most := 8) (by decide)
    have g : GF (v_lk03_t33 s30).1 := f2
    have hl := g.few
    have hrp := rp_field g
    obtain ⟨a1, p1, a2, _⟩ := for_inv (step := v_lk03_b40 ns x17 s30 x32) (ok := ok_lk03_b40 ns x17 s30 x32) (fun _ => True) (v_law_threesA (rgI 0 ((v_lk03_t33 s30).1.length : Int))) (v_lk03_t33 s30).2 trivial (fun s _ t ht => by
      rw [law_threesA_eq] at ht
      exact k03_turn ns x17 s30 x32 s t g ((mem_threes (rgI_inc _ _) t).mp ht))
    obtain ⟨o1, o2⟩ := others_good p1 g
    obtain ⟨c1, p2, c2, _⟩ := for_inv (step := v_lk03_b56 ns x17 s30 x32) (ok := ok_lk03_b56 ns x17 s30 x32) (fun _ => True) (v_lk03_t51 s30 p1).1 (v_lk03_t51 s30 p1).2 trivial (fun s _ G hG => by
      obtain ⟨g1, g2⟩ := o2 G hG
      exact k03_other ns x17 s30 x32 s G g g1 g2)
    constructor
    · unfold ok_lk03_b29
      refine ⟨f1, hrp, ⟨by omega, by omega⟩, by rw [law_threesA_ok]; exact threes_ok hl (GL.every _), a1, fun s50 e => ?_⟩
      rw [a2] at e
      injection e with e
      subst e
      exact ⟨o1, c1, fun _ _ => hrp⟩
    · refine ⟨p2, ?_, trivial⟩
      unfold v_lk03_b29
      rw [a2]
      show (Lp.fin (forV (v_lk03_b56 ns x17 s30 x32) (v_lk03_t51 s30 p1).1 (v_lk03_t51 s30 p1).2) _ _) = _
      rw [c2]
      show (if (!eqB _ _) = true then _ else _) = _
      simp
  have b14 : ∀ (s : Unit) (x17 : Int), 0 ≤ x17 → ok_lk03_b14 ns s x17 ∧ ∃ s', v_lk03_b14 ns s x17 = .nx s' ∧ True := by
    intro s x17 h0
    obtain ⟨a, s', b, _⟩ := for_inv (step := v_lk03_b29 ns x17) (ok := ok_lk03_b29 ns x17) (fun _ => True) (rgI 0 3) (penV (v_law_cell_at ns x17)) trivial (fun s _ x _ => b29 x17 s x)
    constructor
    · unfold ok_lk03_b14
      refine ⟨?_, a⟩
      unfold ok_law_cell_at
      intro h
      exact okI_of ⟨h0, of_decide_eq_true h⟩
    · refine ⟨(), ?_, trivial⟩
      unfold v_lk03_b14
      rw [b]
      rfl
  obtain ⟨a, s', b, _⟩ := for_inv (step := v_lk03_b14 ns) (ok := ok_lk03_b14 ns) (fun _ => True) (rgI 0 (if (if (3 : Int) < (ns.length : Int) then (3 : Int) else (ns.length : Int)) > (1 : Int) then (if (3 : Int) < (ns.length : Int) then (3 : Int) else (ns.length : Int)) else (1 : Int))) () trivial (fun s _ x hx => b14 s x (rgI_mem.mp hx).1)
  constructor
  · unfold ok_lk03
    refine ⟨?_, a⟩
    have hk : 0 ≤ (if (3 : Int) < (ns.length : Int) then (3 : Int) else (ns.length : Int)) ∧ (if (3 : Int) < (ns.length : Int) then (3 : Int) else (ns.length : Int)) ≤ 3 := by split <;> omega
    generalize (if (3 : Int) < (ns.length : Int) then (3 : Int) else (ns.length : Int)) = k at hk
    split <;> omega
  · unfold v_lk03
    rw [b]
    rfl
end Rs
end

section
set_option Elab.async false
set_option linter.all false
set_option maxRecDepth 100000
set_option maxHeartbeats 1000000
set_option autoImplicit false
namespace Lk03
open Rs PySem
def b_is_whole : Cs := (.cons (.ret (.and (.isi (.var 0) .int) (.not (.isi (.var 0) .bool)))) .nil)
def b_is_among : Cs := (.cons (.ret (.and (.call 0 (.cons (.var 0) .nil)) (.chn .le .le (.var 1) (.var 0) (.var 2)))) .nil)
def b_are_some : Cs := (.cons (.ret (.and (.isi (.var 0) .tup) (.chn .le .le (.var 1) (.blt .len (.cons (.var 0) .nil)) (.var 2)))) .nil)
def b_is_place : Cs := (.cons (.ret (.and (.call 2 (.cons (.var 0) (.cons (.cst (.int 2)) (.cons (.cst (.int 2)) .nil)))) (.blt .all (.cons (.lc [1] (.call 1 (.cons (.var 1) (.cons (.cst (.int 0)) (.cons (.glo (Str.ofString "FARTHEST") (.int 40)) .nil)))) (.nm 1) (.of (.var 0)) .nil .nil) .nil)))) .nil)
def b_bend : Cs := (.cons (.ret (.bop .sub (.bop .mul (.bop .sub (.ix (.var 1) (.cst (.int 0))) (.ix (.var 0) (.cst (.int 0)))) (.bop .sub (.ix (.var 2) (.cst (.int 1))) (.ix (.var 0) (.cst (.int 1))))) (.bop .mul (.bop .sub (.ix (.var 1) (.cst (.int 1))) (.ix (.var 0) (.cst (.int 1)))) (.bop .sub (.ix (.var 2) (.cst (.int 0))) (.ix (.var 0) (.cst (.int 0))))))) .nil)
def b_threes : Cs := (.cons (.ret (.lc [1, 2, 3] (.tup (.cons (.var 1) (.cons (.var 2) (.cons (.var 3) .nil)))) (.nm 1) (.rng (.cons (.var 0) .nil)) .nil (.cons (.nm 2) (.rng (.cons (.bop .add (.var 1) (.cst (.int 1))) (.cons (.var 0) .nil))) .nil (.cons (.nm 3) (.rng (.cons (.bop .add (.var 2) (.cst (.int 1))) (.cons (.var 0) .nil))) .nil .nil)))) .nil)
def b_is_field : Cs := (.cons (.ite (.or (.not (.call 2 (.cons (.var 0) (.cons (.cst (.int 1)) (.cons (.glo (Str.ofString "MOST_STAKES") (.int 8)) .nil))))) (.not (.blt .all (.cons (.lc [4] (.call 3 (.cons (.var 4) .nil)) (.nm 4) (.of (.var 0)) .nil .nil) .nil)))) (.cons (.ret (.cst (.bl false))) .nil) .nil) (.cons (.ite (.cmp .lt (.blt .lenset (.cons (.var 0) .nil)) (.blt .len (.cons (.var 0) .nil))) (.cons (.ret (.cst (.bl false))) .nil) .nil) (.cons (.ret (.blt .all (.cons (.lc [1, 2, 3] (.cmp .ne (.call 4 (.cons (.ix (.var 0) (.var 1)) (.cons (.ix (.var 0) (.var 2)) (.cons (.ix (.var 0) (.var 3)) .nil)))) (.cst (.int 0))) (.tup (.cons (.nm 1) (.cons (.nm 2) (.cons (.nm 3) .nil)))) (.of (.call 5 (.cons (.blt .len (.cons (.var 0) .nil)) .nil))) .nil .nil) .nil))) .nil)))
def b_need_field : Cs := (.cons (.ite (.not (.call 6 (.cons (.var 0) .nil))) (.cons (.ras (Str.ofString "NoField")) .nil) .nil) .nil)
def b_need_stake : Cs := (.cons (.ite (.or (.not (.call 0 (.cons (.var 1) .nil))) (.cmp .nin (.var 1) (.var 0))) (.cons (.ras (Str.ofString "NoStake")) .nil) .nil) .nil)
def b_side : Cs := (.cons (.asg (.nm 4) (.call 4 (.cons (.ix (.var 0) (.var 1)) (.cons (.ix (.var 0) (.var 2)) (.cons (.ix (.var 0) (.var 3)) .nil))))) (.cons (.ret (.bop .sub (.blt .int (.cons (.cmp .gt (.var 4) (.cst (.int 0))) .nil)) (.blt .int (.cons (.cmp .lt (.var 4) (.cst (.int 0))) .nil)))) .nil))
def b_turn : Cs := (.cons (.expr (.call 7 (.cons (.var 0) .nil))) (.cons (.asg (.nm 4) (.rng true (.cons (.blt .len (.cons (.var 0) .nil)) .nil))) (.cons (.expr (.call 8 (.cons (.var 4) (.cons (.var 1) .nil)))) (.cons (.expr (.call 8 (.cons (.lc [5] (.var 5) (.nm 5) (.of (.var 4)) (.cons (.cmp .ne (.var 5) (.var 1)) .nil) .nil) (.cons (.var 2) .nil)))) (.cons (.expr (.call 8 (.cons (.lc [5] (.var 5) (.nm 5) (.of (.var 4)) (.cons (.cmp .nin (.var 5) (.tup (.cons (.var 1) (.cons (.var 2) .nil)))) .nil) .nil) (.cons (.var 3) .nil)))) (.cons (.ret (.call 9 (.cons (.var 0) (.cons (.var 1) (.cons (.var 2) (.cons (.var 3) .nil)))))) .nil))))))
def b_alike_b1 : Cs := (.cons (.ite (.cmp .ne (.call 9 (.cons (.var 0) (.cons (.var 2) (.cons (.var 3) (.cons (.var 4) .nil))))) (.call 9 (.cons (.var 1) (.cons (.var 2) (.cons (.var 3) (.cons (.var 4) .nil)))))) (.cons (.ret (.tup (.cons (.cst (.str (Str.ofString "apart"))) (.cons (.var 2) (.cons (.var 3) (.cons (.var 4) .nil)))))) .nil) .nil) .nil)
def b_alike : Cs := (.cons (.expr (.call 7 (.cons (.var 0) .nil))) (.cons (.expr (.call 7 (.cons (.var 1) .nil))) (.cons (.ite (.cmp .ne (.blt .len (.cons (.var 0) .nil)) (.blt .len (.cons (.var 1) .nil))) (.cons (.ras (Str.ofString "NoField")) .nil) .nil) (.cons (.fr (.tup (.cons (.nm 2) (.cons (.nm 3) (.cons (.nm 4) .nil)))) (.of (.call 5 (.cons (.blt .len (.cons (.var 0) .nil)) .nil))) b_alike_b1) (.cons (.ret (.tup (.cons (.cst (.str (Str.ofString "alike"))) .nil))) .nil)))))
def b__law_cell_at : Cs := (.cons (.ite (.cmp .lt (.var 1) (.blt .len (.cons (.var 0) .nil))) (.cons (.ret (.ix (.var 0) (.var 1))) .nil) .nil) (.cons (.ret (.cst (.int 0))) .nil))
def b__law_pen : Cs := (.cons (.ret (.mut (.lst (.cons (.blt .max (.cons (.cst (.int 0)) (.cons (.bop .sub (.var 0) (.bop .pow (.cst (.int 10)) (.cst (.int 18)))) .nil))) (.cons (.bop .add (.bop .mod (.var 0) (.cst (.int 2147483629))) (.cst (.int 1))) (.cons (.cst (.int 0)) .nil)))))) .nil)
def b__law_draw : Cs := (.cons (.ite (.cmp .gt (.ix (.var 0) (.cst (.int 0))) (.cst (.int 0))) (.cons (.asg (.nm 3) (.bop .mod (.ix (.var 0) (.cst (.int 0))) (.var 1))) (.cons (.asg (.sub (.var 0) (.cst (.int 0))) (.bop .fdiv (.ix (.var 0) (.cst (.int 0))) (.var 1))) (.cons (.ret (.var 3)) .nil))) .nil) (.cons (.asg (.sub (.var 0) (.cst (.int 2))) (.bop .add (.ix (.var 0) (.cst (.int 2))) (.cst (.int 1)))) (.cons (.asg (.sub (.var 0) (.cst (.int 1))) (.bop .mod (.bop .add (.bop .add (.bop .mul (.ix (.var 0) (.cst (.int 1))) (.cst (.int 48271))) (.bop .mul (.cst (.int 1009)) (.ix (.var 0) (.cst (.int 2))))) (.cst (.int 7))) (.cst (.int 2147483647)))) (.cons (.asg (.nm 2) (.bop .mod (.bop .add (.bop .add (.bop .mul (.ix (.var 0) (.cst (.int 1))) (.ix (.var 0) (.cst (.int 1)))) (.bop .mul (.cst (.int 69621)) (.ix (.var 0) (.cst (.int 1))))) (.cst (.int 11))) (.cst (.int 2147483629)))) (.cons (.asg (.nm 2) (.bop .mod (.bop .add (.bop .mul (.var 2) (.var 2)) (.bop .mul (.cst (.int 40014)) (.var 2))) (.cst (.int 2147483587)))) (.cons (.ret (.bop .mod (.bop .fdiv (.var 2) (.cst (.int 16))) (.var 1))) .nil))))))
def b__law_same : Cs := (.cons (.ret (.cmp .eq (.blt .repr (.cons (.var 0) .nil)) (.blt .repr (.cons (.var 1) .nil)))) .nil)
def b__law_mixed_b1 : Cs := (.cons (.expr (.app (.var 4) (.ppi (.var 3) (.call 14 (.cons (.var 0) (.cons (.blt .len (.cons (.var 3) .nil)) .nil)))))) .nil)
def b__law_mixed : Cs := (.cons (.par [3, 4] (.cons (.mut (.blt .list (.cons (.var 1) .nil))) (.cons (.mut (.lst .nil)) .nil))) (.cons (.fr (.nm 2) (.rng (.cons (.blt .len (.cons (.var 1) .nil)) .nil)) b__law_mixed_b1) (.cons (.ret (.var 4)) .nil)))
def b__law_bend : Cs := (.cons (.par [3, 4] (.cons (.bop .sub (.ix (.var 1) (.cst (.int 0))) (.ix (.var 0) (.cst (.int 0)))) (.cons (.bop .sub (.ix (.var 1) (.cst (.int 1))) (.ix (.var 0) (.cst (.int 1)))) .nil))) (.cons (.ret (.bop .sub (.bop .mul (.var 3) (.bop .sub (.ix (.var 2) (.cst (.int 1))) (.ix (.var 0) (.cst (.int 1))))) (.bop .mul (.var 4) (.bop .sub (.ix (.var 2) (.cst (.int 0))) (.ix (.var 0) (.cst (.int 0))))))) .nil))
def b__law_is_free_b1 : Cs := (.cons (.ite (.cmp .ne (.lc [4] (.cst (.int 1)) (.nm 4) (.of (.sl (.var 0) (.cons (.bop .add (.var 2) (.cst (.int 1))) .nil) .nil)) (.cons (.cmp .eq (.call 17 (.cons (.var 3) (.cons (.var 4) (.cons (.var 1) .nil)))) (.cst (.int 0))) .nil) .nil) (.lst .nil)) (.cons (.ret (.cst (.bl false))) .nil) .nil) .nil)
def b__law_is_free : Cs := (.cons (.ite (.cmp .isin (.var 1) (.var 0)) (.cons (.ret (.cst (.bl false))) .nil) .nil) (.cons (.fr (.tup (.cons (.nm 2) (.cons (.nm 3) .nil))) (.enu (.var 0)) b__law_is_free_b1) (.cons (.ret (.cst (.bl true))) .nil)))
def b__law_field_b1 : Cs := (.cons (.asg (.nm 6) (.tup (.cons (.call 14 (.cons (.var 0) (.cons (.bop .add (.var 3) (.cst (.int 1))) .nil))) (.cons (.call 14 (.cons (.var 0) (.cons (.bop .add (.var 3) (.cst (.int 1))) .nil))) .nil)))) (.cons (.ite (.cmp .eq (.call 14 (.cons (.var 0) (.cons (.cst (.int 5)) .nil))) (.cst (.int 0))) (.cons (.asg (.nm 6) (.tup (.cons (.ix (.var 6) (.cst (.int 0))) (.cons (.ix (.lst (.cons (.cst (.int 0)) (.cons (.var 3) .nil))) (.call 14 (.cons (.var 0) (.cons (.cst (.int 2)) .nil)))) .nil)))) .nil) .nil) (.cons (.ite (.and (.cmp .lt (.blt .len (.cons (.var 5) .nil)) (.var 4)) (.call 18 (.cons (.var 5) (.cons (.var 6) .nil)))) (.cons (.asg (.nm 5) (.bop .add (.var 5) (.tup (.cons (.var 6) .nil)))) .nil) .nil) .nil)))
def b__law_field : Cs := (.cons (.par [3, 4] (.cons (.ix (.lst (.cons (.cst (.int 3)) (.cons (.cst (.int 6)) (.cons (.cst (.int 12)) (.cons (.cst (.int 40)) .nil))))) (.call 14 (.cons (.var 0) (.cons (.cst (.int 4)) .nil)))) (.cons (.bop .add (.cst (.int 1)) (.call 14 (.cons (.var 0) (.cons (.var 1) .nil)))) .nil))) (.cons (.par [4, 5] (.cons (.ix (.lst (.cons (.var 4) (.cons (.var 1) .nil))) (.call 14 (.cons (.var 0) (.cons (.cst (.int 2)) .nil)))) (.cons (.tup .nil) .nil))) (.cons (.fr (.nm 2) (.rng (.cons (.bop .mul (.cst (.int 3)) (.var 1)) .nil)) b__law_field_b1) (.cons (.ret (.var 5)) .nil))))
def b__law_side : Cs := (.cons (.asg (.nm 4) (.call 17 (.cons (.ix (.var 0) (.var 1)) (.cons (.ix (.var 0) (.var 2)) (.cons (.ix (.var 0) (.var 3)) .nil))))) (.cons (.ret (.bop .sub (.blt .int (.cons (.cmp .gt (.var 4) (.cst (.int 0))) .nil)) (.blt .int (.cons (.cmp .lt (.var 4) (.cst (.int 0))) .nil)))) .nil))
def b__law_threes_b1 : Cs := (.cons (.asg (.nm 1) (.bop .add (.var 1) (.lc [3] (.bop .add (.var 3) (.tup (.cons (.var 2) .nil))) (.nm 3) (.of (.var 1)) (.cons (.cmp .lt (.blt .len (.cons (.var 3) .nil)) (.cst (.int 3))) .nil) .nil))) .nil)
def b__law_threes : Cs := (.cons (.asg (.nm 1) (.lst (.cons (.tup .nil) .nil))) (.cons (.fr (.nm 2) (.of (.var 0)) b__law_threes_b1) (.cons (.ret (.blt .sorted (.cons (.lc [3] (.var 3) (.nm 3) (.of (.var 1)) (.cons (.cmp .eq (.blt .len (.cons (.var 3) .nil)) (.cst (.int 3))) .nil) .nil) .nil))) .nil)))
def b__law_due_b1 : Cs := (.cons (.asg (.tup (.cons (.nm 3) (.cons (.nm 4) (.cons (.nm 5) .nil)))) (.var 2)) (.cons (.ite (.cmp .ne (.call 20 (.cons (.var 0) (.cons (.var 3) (.cons (.var 4) (.cons (.var 5) .nil))))) (.call 20 (.cons (.var 1) (.cons (.var 3) (.cons (.var 4) (.cons (.var 5) .nil)))))) (.cons (.ret (.tup (.cons (.cst (.str (Str.ofString "apart"))) (.cons (.var 3) (.cons (.var 4) (.cons (.var 5) .nil)))))) .nil) .nil) .nil))
def b__law_due : Cs := (.cons (.fr (.nm 2) (.of (.call 21 (.cons (.rng true (.cons (.blt .len (.cons (.var 0) .nil)) .nil)) .nil))) b__law_due_b1) (.cons (.ret (.tup (.cons (.cst (.str (Str.ofString "alike"))) .nil))) .nil))
def b__law_others_b1 : Cs := (.cons (.ite (.and (.cmp .le (.cst (.int 0)) (.blt .min (.cons (.var 3) .nil))) (.and (.cmp .le (.blt .max (.cons (.var 3) .nil)) (.cst (.int 40))) (.call 18 (.cons (.bop .add (.sl (.var 1) .nil (.cons (.var 2) .nil)) (.sl (.var 1) (.cons (.bop .add (.var 2) (.cst (.int 1))) .nil) .nil)) (.cons (.var 3) .nil))))) (.cons (.expr (.app (.var 5) (.bop .add (.bop .add (.sl (.var 1) .nil (.cons (.var 2) .nil)) (.tup (.cons (.var 3) .nil))) (.sl (.var 1) (.cons (.bop .add (.var 2) (.cst (.int 1))) .nil) .nil)))) .nil) .nil) .nil)
def b__law_others : Cs := (.cons (.par [5, 6] (.cons (.mut (.lst (.cons (.var 1) (.cons (.blt .tuple (.cons (.lc [7, 8] (.tup (.cons (.bop .sub (.cst (.int 40)) (.var 7)) (.cons (.var 8) .nil))) (.tup (.cons (.nm 7) (.cons (.nm 8) .nil))) (.of (.var 1)) .nil .nil) .nil)) .nil)))) (.cons (.blt .max (.cons (.lc [9] (.blt .max (.cons (.var 9) .nil)) (.nm 9) (.of (.var 1)) .nil .nil) .nil)) .nil))) (.cons (.ite (.cmp .le (.bop .mul (.cst (.int 2)) (.var 6)) (.cst (.int 40))) (.cons (.expr (.app (.var 5) (.blt .tuple (.cons (.lc [7, 8] (.tup (.cons (.bop .mul (.cst (.int 2)) (.var 7)) (.cons (.bop .mul (.cst (.int 2)) (.var 8)) .nil))) (.tup (.cons (.nm 7) (.cons (.nm 8) .nil))) (.of (.var 1)) .nil .nil) .nil)))) (.cons (.expr (.app (.var 5) (.blt .tuple (.cons (.lc [7, 8] (.tup (.cons (.var 7) (.cons (.bop .add (.var 7) (.var 8)) .nil))) (.tup (.cons (.nm 7) (.cons (.nm 8) .nil))) (.of (.var 1)) .nil .nil) .nil)))) .nil)) .nil) (.cons (.asg (.nm 2) (.call 14 (.cons (.var 0) (.cons (.blt .len (.cons (.var 1) .nil)) .nil)))) (.cons (.asg (.tup (.cons (.nm 7) (.cons (.nm 8) .nil))) (.ix (.var 1) (.var 2))) (.cons (.fr (.nm 3) (.of (.tup (.cons (.tup (.cons (.bop .add (.var 7) (.cst (.int 1))) (.cons (.var 8) .nil))) (.cons (.tup (.cons (.bop .sub (.var 7) (.cst (.int 1))) (.cons (.var 8) .nil))) (.cons (.tup (.cons (.var 7) (.cons (.bop .add (.var 8) (.cst (.int 1))) .nil))) (.cons (.tup (.cons (.var 7) (.cons (.bop .sub (.var 8) (.cst (.int 1))) .nil))) (.cons (.tup (.cons (.call 14 (.cons (.var 0) (.cons (.cst (.int 41)) .nil))) (.cons (.call 14 (.cons (.var 0) (.cons (.cst (.int 41)) .nil))) .nil))) .nil))))))) b__law_others_b1) (.cons (.asg (.nm 4) (.call 19 (.cons (.var 0) (.cons (.blt .len (.cons (.var 1) .nil)) .nil)))) (.cons (.ret (.bop .add (.var 5) (.bop .mul (.lst (.cons (.var 4) .nil)) (.blt .int (.cons (.cmp .eq (.blt .len (.cons (.var 4) .nil)) (.blt .len (.cons (.var 1) .nil))) .nil))))) .nil)))))))
def b_law_b1 : Cs := (.cons (.asg (.tup (.cons (.nm 10) (.cons (.nm 11) (.cons (.nm 12) .nil)))) (.call 16 (.cons (.var 2) (.cons (.var 6) .nil)))) (.cons (.asg (.nm 8) (.call 20 (.cons (.var 4) (.cons (.var 10) (.cons (.var 11) (.cons (.var 12) .nil)))))) (.cons (.asg (.nm 9) (.lst (.cons (.call 10 (.cons (.var 4) (.cons (.var 10) (.cons (.var 11) (.cons (.var 12) .nil))))) (.cons (.call 10 (.cons (.var 4) (.cons (.var 11) (.cons (.var 10) (.cons (.var 12) .nil))))) (.cons (.call 10 (.cons (.var 4) (.cons (.var 12) (.cons (.var 10) (.cons (.var 11) .nil))))) .nil))))) (.cons (.ite (.not (.call 15 (.cons (.var 9) (.cons (.lst (.cons (.var 8) (.cons (.bop .sub (.cst (.int 0)) (.var 8)) (.cons (.var 8) .nil)))) .nil)))) (.cons (.ret (.cst (.bl false))) .nil) .nil) .nil))))
def b_law_b2 : Cs := (.cons (.par [13, 8] (.cons (.blt .repr (.cons (.var 7) .nil)) (.cons (.call 22 (.cons (.var 4) (.cons (.var 7) .nil))) .nil))) (.cons (.asg (.nm 9) (.lc [14] (.call 11 (.cons (.var 4) (.cons (.var 7) .nil))) (.nm 14) (.rng (.cons (.cst (.int 2)) .nil)) .nil .nil)) (.cons (.ite (.or (.not (.call 15 (.cons (.var 9) (.cons (.lst (.cons (.var 8) (.cons (.var 8) .nil))) .nil)))) (.cmp .ne (.blt .repr (.cons (.var 7) .nil)) (.var 13))) (.cons (.ret (.cst (.bl false))) .nil) .nil) .nil)))
def b_law_b3 : Cs := (.cons (.asg (.nm 4) (.call 19 (.cons (.var 2) (.cons (.cst (.int 8)) .nil)))) (.cons (.asg (.nm 5) (.blt .repr (.cons (.var 4) .nil))) (.cons (.fr (.nm 6) (.of (.call 21 (.cons (.rng true (.cons (.blt .len (.cons (.var 4) .nil)) .nil)) .nil))) b_law_b1) (.cons (.fr (.nm 7) (.of (.call 23 (.cons (.var 2) (.cons (.var 4) .nil)))) b_law_b2) (.cons (.ite (.cmp .ne (.blt .repr (.cons (.var 4) .nil)) (.var 5)) (.cons (.ret (.cst (.bl false))) .nil) .nil) .nil)))))
def b_law_b4 : Cs := (.cons (.asg (.nm 2) (.call 13 (.cons (.call 12 (.cons (.var 0) (.cons (.var 1) .nil))) .nil))) (.cons (.fr (.nm 3) (.rng (.cons (.cst (.int 3)) .nil)) b_law_b3) .nil))
def b_law : Cs := (.cons (.fr (.nm 1) (.rng (.cons (.blt .max (.cons (.cst (.int 1)) (.cons (.blt .min (.cons (.blt .len (.cons (.var 0) .nil)) (.cons (.cst (.int 3)) .nil))) .nil))) .nil)) b_law_b4) (.cons (.ret (.cst (.bl true))) .nil))
def tab : List Fn := [⟨1, 1, false, b_is_whole⟩, ⟨3, 3, false, b_is_among⟩, ⟨3, 3, false, b_are_some⟩, ⟨1, 2, false, b_is_place⟩, ⟨3, 3, false, b_bend⟩, ⟨1, 4, false, b_threes⟩, ⟨1, 5, false, b_is_field⟩, ⟨1, 1, false, b_need_field⟩, ⟨2, 2, false, b_need_stake⟩, ⟨4, 5, false, b_side⟩, ⟨4, 6, false, b_turn⟩, ⟨2, 5, false, b_alike⟩, ⟨2, 2, false, b__law_cell_at⟩, ⟨1, 1, true, b__law_pen⟩, ⟨2, 4, false, b__law_draw⟩, ⟨2, 2, false, b__law_same⟩, ⟨2, 5, false, b__law_mixed⟩, ⟨3, 5, false, b__law_bend⟩, ⟨2, 5, false, b__law_is_free⟩, ⟨2, 7, false, b__law_field⟩, ⟨4, 5, false, b__law_side⟩, ⟨1, 4, false, b__law_threes⟩, ⟨2, 6, false, b__law_due⟩, ⟨2, 10, false, b__law_others⟩, ⟨1, 15, false, b_law⟩]
section
variable {sub : Str → Str → Option Bool}
theorem r_is_whole {k : Nat} {S : Store} {thing : Int} (hs : OKS S) (h : ok_is_whole thing) : run tab sub (k + 1) 0 [(D.int thing)] S = .ok (D.bl (v_is_whole thing)) S := by
  refine run_P (e := D.bl) (v := v_is_whole thing) (show tab[0]? = some ⟨1, 1, false, b_is_whole⟩ from rfl) rfl rfl hs ?_
  show FunG (QP D.bl S) (evCs _ b_is_whole [some (D.int thing)] S) _
  unfold ok_is_whole at h
  unfold b_is_whole v_is_whole
  exact fun_ret (ev_and (ev_isi (b := true) (ev_var rfl) rfl) (fun hb1 => (ev_not (ev_isi (b := false) (ev_var rfl) rfl) t_bl))) (qp_leaf (ce_bl _))
theorem r_is_among {k : Nat} {S : Store} {thing : Int} {low : Int} {high : Int} (hs : OKS S) (h : ok_is_among thing low high) : run tab sub (k + 2) 1 [(D.int thing), (D.int low), (D.int high)] S = .ok (D.bl (v_is_among thing low high)) S := by
  refine run_P (e := D.bl) (v := v_is_among thing low high) (show tab[1]? = some ⟨3, 3, false, b_is_among⟩ from rfl) rfl rfl hs ?_
  show FunG (QP D.bl S) (evCs _ b_is_among [some (D.int thing), some (D.int low), some (D.int high)] S) _
  unfold ok_is_among at h
  unfold b_is_among v_is_among
  exact fun_ret (ev_and (ev_call (es_cons (ev_var rfl) es_nil) (r_is_whole (sub := sub) (k := k) (S := S) hs h)) (fun hb1 => (ev_chn (ev_var rfl) (ev_var rfl) o_le (fun hb2 => (ev_var rfl)) (fun hb2 => o_le)))) (qp_leaf (ce_bl _))
theorem r_are_some {k : Nat} {S : Store} {thing : (List (Int × Int))} {low : Int} {high : Int} (hs : OKS S) (h : ok_are_some thing low high) : run tab sub (k + 1) 2 [((eT (e2 D.int D.int)) thing), (D.int low), (D.int high)] S = .ok (D.bl (v_are_some thing low high)) S := by
  refine run_P (e := D.bl) (v := v_are_some thing low high) (show tab[2]? = some ⟨3, 3, false, b_are_some⟩ from rfl) rfl rfl hs ?_
  show FunG (QP D.bl S) (evCs _ b_are_some [some ((eT (e2 D.int D.int)) thing), some (D.int low), some (D.int high)] S) _
  unfold ok_are_some at h
  unfold b_are_some v_are_some
  exact fun_ret (ev_and (ev_isi (b := true) (ev_var rfl) rfl) (fun hb1 => (ev_chn (ev_var rfl) (ev_blt (es_cons (ev_var rfl) es_nil) b_lenT) o_le (fun hb2 => (ev_var rfl)) (fun hb2 => o_le)))) (qp_leaf (ce_bl _))
theorem r_are_someA {k : Nat} {S : Store} {thing : (Int × Int)} {low : Int} {high : Int} (hs : OKS S) (h : ok_are_someA thing low high) : run tab sub (k + 1) 2 [((e2 D.int D.int) thing), (D.int low), (D.int high)] S = .ok (D.bl (v_are_someA thing low high)) S := by
  refine run_P (e := D.bl) (v := v_are_someA thing low high) (show tab[2]? = some ⟨3, 3, false, b_are_some⟩ from rfl) rfl rfl hs ?_
  show FunG (QP D.bl S) (evCs _ b_are_some [some ((e2 D.int D.int) thing), some (D.int low), some (D.int high)] S) _
  unfold ok_are_someA at h
  unfold b_are_some v_are_someA
  exact fun_ret (ev_and (ev_isi (b := true) (ev_var rfl) rfl) (fun hb1 => (ev_chn (ev_var rfl) (ev_blt (es_cons (ev_var rfl) es_nil) rfl) o_le (fun hb2 => (ev_var rfl)) (fun hb2 => o_le)))) (qp_leaf (ce_bl _))
theorem r_is_place {k : Nat} {S : Store} {thing : (Int × Int)} (hs : OKS S) (h : ok_is_place thing) : run tab sub (k + 3) 3 [((e2 D.int D.int) thing)] S = .ok (D.bl (v_is_place thing)) S := by
  refine run_P (e := D.bl) (v := v_is_place thing) (show tab[3]? = some ⟨1, 2, false, b_is_place⟩ from rfl) rfl rfl hs ?_
  show FunG (QP D.bl S) (evCs _ b_is_place [some ((e2 D.int D.int) thing), none] S) _
  unfold ok_is_place at h
  unfold b_is_place v_is_place
  exact fun_ret (ev_and (ev_call (es_cons (ev_var rfl) (es_cons ev_cst (es_cons ev_cst es_nil))) (r_are_someA (sub := sub) (k := k + 1) (S := S) hs h.1)) (fun hb1 => (ev_blt (es_cons (lc_map (e := D.int) (e' := D.bl) (G := fun x2 => (v_is_among x2 (0 : Int) (40 : Int))) (w := fun x2 => [some ((e2 D.int D.int) thing), some (D.int x2)]) (it_T (ev_cast (ev_var rfl) (show ((e2 D.int D.int) thing) = (eT D.int) [thing.1, thing.2] from rfl))) (fun x2 hx3 => rfl) (fun x2 hx3 => (ev_call (es_cons (ev_var rfl) (es_cons ev_cst (es_cons ev_glo es_nil))) (r_is_among (sub := sub) (k := k) (S := S) hs ((h.2 hb1).1 x2 hx3)))) (h.2 hb1).2) es_nil) b_all))) (qp_leaf (ce_bl _))
theorem r_bend {k : Nat} {S : Store} {one : (Int × Int)} {other : (Int × Int)} {third : (Int × Int)} (hs : OKS S) (h : ok_bend one other third) : run tab sub (k + 1) 4 [((e2 D.int D.int) one), ((e2 D.int D.int) other), ((e2 D.int D.int) third)] S = .ok (D.int (v_bend one other third)) S := by
  refine run_P (e := D.int) (v := v_bend one other third) (show tab[4]? = some ⟨3, 3, false, b_bend⟩ from rfl) rfl rfl hs ?_
  show FunG (QP D.int S) (evCs _ b_bend [some ((e2 D.int D.int) one), some ((e2 D.int D.int) other), some ((e2 D.int D.int) third)] S) _
  unfold ok_bend at h
  unfold b_bend v_bend
  exact fun_ret (ev_bop (ev_bop (ev_bop (ev_ix (ev_var rfl) ev_cst rfl) (ev_ix (ev_var rfl) ev_cst rfl) o_sub) (ev_bop (ev_ix (ev_var rfl) ev_cst rfl) (ev_ix (ev_var rfl) ev_cst rfl) o_sub) (o_mul h.1)) (ev_bop (ev_bop (ev_ix (ev_var rfl) ev_cst rfl) (ev_ix (ev_var rfl) ev_cst rfl) o_sub) (ev_bop (ev_ix (ev_var rfl) ev_cst rfl) (ev_ix (ev_var rfl) ev_cst rfl) o_sub) (o_mul h.2)) o_sub) (qp_leaf (ce_int _))
theorem r_threes {k : Nat} {S : Store} {many : Int} (hs : OKS S) (h : ok_threes many) : run tab sub (k + 1) 5 [(D.int many)] S = .ok ((eL (e3 D.int D.int D.int)) (v_threes many)) S := by
  refine run_P (e := (eL (e3 D.int D.int D.int))) (v := v_threes many) (show tab[5]? = some ⟨1, 4, false, b_threes⟩ from rfl) rfl rfl hs ?_
  show FunG (QP (eL (e3 D.int D.int D.int)) S) (evCs _ b_threes [some (D.int many), none, none, none] S) _
  unfold ok_threes at h
  unfold b_threes v_threes
  exact fun_ret (lc_flat (e := D.int) (e' := (e3 D.int D.int D.int)) (G := fun x1 => ((rgI (x1 + (1 : Int)) many).flatMap fun x3 => ((rgI (x3 + (1 : Int)) many).flatMap fun x5 => [(x1, x3, x5)]))) (it_rng (es_cons (ev_var rfl) es_nil) (rng1 h.1)) (fun x1 hx2 => (st_all rfl (gs_cons (e := D.int) (e' := (e3 D.int D.int D.int)) (G := fun x3 => ((rgI (x3 + (1 : Int)) many).flatMap fun x5 => [(x1, x3, x5)])) (it_rng (es_cons (ev_bop (ev_var rfl) ev_cst o_add) (es_cons (ev_var rfl) es_nil)) (rng2 (h.2.1 x1 hx2).1 (h.2.1 x1 hx2).2.1)) (fun x3 hx4 => (st_all rfl (gs_cons (e := D.int) (e' := (e3 D.int D.int D.int)) (G := fun x5 => [(x1, x3, x5)]) (it_rng (es_cons (ev_bop (ev_var rfl) ev_cst o_add) (es_cons (ev_var rfl) es_nil)) (rng2 ((h.2.1 x1 hx2).2.2 x3 hx4).1 ((h.2.1 x1 hx2).2.2 x3 hx4).2)) (fun x5 hx6 => (st_all rfl (gs_nil (ev_tup3 (a := D.int) (b := D.int) (c := D.int) (x := x1) (y := x3) (z := x5) (es_cons (ev_var rfl) (es_cons (ev_var rfl) (es_cons (ev_var rfl) es_nil))))))))))))) h.2.2) (qp_leaf ((ce_L (ce_3 ce_int ce_int ce_int)) _))
theorem r_is_field {k : Nat} {S : Store} {thing : (List (Int × Int))} (hs : OKS S) (h : ok_is_field thing) : run tab sub (k + 4) 6 [((eT (e2 D.int D.int)) thing)] S = .ok (D.bl (v_is_field thing)) S := by
  refine run_P (e := D.bl) (v := v_is_field thing) (show tab[6]? = some ⟨1, 5, false, b_is_field⟩ from rfl) rfl rfl hs ?_
  show FunG (QP D.bl S) (evCs _ b_is_field [some ((eT (e2 D.int D.int)) thing), none, none, none, none] S) _
  unfold ok_is_field at h
  unfold b_is_field v_is_field
  refine cs_if (x := false) (y := (if (decide ((distV thing : Int) < (thing.length : Int))) = true then false else ((v_threes (thing.length : Int)).all fun x6 => (!eqB (v_bend (gI thing x6.1) (gI thing x6.2.1) (gI thing x6.2.2)) (0 : Int))))) (ev_or (ev_not (ev_call (es_cons (ev_var rfl) (es_cons ev_cst (es_cons ev_glo es_nil))) (r_are_some (sub := sub) (k := k + 2) (S := S) hs h.1)) t_bl) (fun hb1 => (ev_not (ev_blt (es_cons (lc_map (e := (e2 D.int D.int)) (e' := D.bl) (G := fun x2 => (v_is_place x2)) (w := fun x2 => [some ((eT (e2 D.int D.int)) thing), none, none, none, some ((e2 D.int D.int) x2)]) (it_T (ev_var rfl)) (fun x2 hx3 => rfl) (fun x2 hx3 => (ev_call (es_cons (ev_var rfl) es_nil) (r_is_place (sub := sub) (k := k) (S := S) hs ((h.2.1 hb1).1 x2 hx3)))) (h.2.1 hb1).2) es_nil) b_all) t_bl))) t_bl (fun hb4 => ?_) (fun hb4 => ?_)
  · dsimp only [capp]
    exact fun_ret ev_cst (qp_leaf (ce_bl _))
  · dsimp only [capp]
    refine cs_if (x := false) (y := ((v_threes (thing.length : Int)).all fun x6 => (!eqB (v_bend (gI thing x6.1) (gI thing x6.2.1) (gI thing x6.2.2)) (0 : Int)))) (ev_cmp (ev_blt (es_cons (ev_var rfl) es_nil) (b_lenset (h.2.2 hb4).1)) (ev_blt (es_cons (ev_var rfl) es_nil) b_lenT) o_lt) t_bl (fun hb5 => ?_) (fun hb5 => ?_)
    · dsimp only [capp]
      exact fun_ret ev_cst (qp_leaf (ce_bl _))
    · dsimp only [capp]
      exact fun_ret (ev_blt (es_cons (lc_map (e := (e3 D.int D.int D.int)) (e' := D.bl) (G := fun x6 => (!eqB (v_bend (gI thing x6.1) (gI thing x6.2.1) (gI thing x6.2.2)) (0 : Int))) (w := fun x6 => [some ((eT (e2 D.int D.int)) thing), some (D.int x6.1), some (D.int x6.2.1), some (D.int x6.2.2), none]) (it_L (ev_call (es_cons (ev_blt (es_cons (ev_var rfl) es_nil) b_lenT) es_nil) (r_threes (sub := sub) (k := k + 2) (S := S) hs ((h.2.2 hb4).2 hb5).1))) (fun x6 hx7 => rfl) (fun x6 hx7 => (ev_cmp (ev_call (es_cons (ev_ix (ev_var rfl) (ev_var rfl) (x_T (((h.2.2 hb4).2 hb5).2.1 x6 hx7).1)) (es_cons (ev_ix (ev_var rfl) (ev_var rfl) (x_T (((h.2.2 hb4).2 hb5).2.1 x6 hx7).2.1)) (es_cons (ev_ix (ev_var rfl) (ev_var rfl) (x_T (((h.2.2 hb4).2 hb5).2.1 x6 hx7).2.2.1)) es_nil))) (r_bend (sub := sub) (k := k + 2) (S := S) hs (((h.2.2 hb4).2 hb5).2.1 x6 hx7).2.2.2)) ev_cst (o_ne ge_int))) ((h.2.2 hb4).2 hb5).2.2) es_nil) b_all) (qp_leaf (ce_bl _))
theorem r_need_field {k : Nat} {S : Store} {thing : (List (Int × Int))} (hs : OKS S) (h : ok_need_field thing) : run tab sub (k + 5) 7 [((eT (e2 D.int D.int)) thing)] S = .ok D.non S := by
  refine run_N (v := ()) (show tab[7]? = some ⟨1, 1, false, b_need_field⟩ from rfl) rfl rfl hs ?_
  show NonR S (evCs _ b_need_field [some ((eT (e2 D.int D.int)) thing)] S) _
  unfold ok_need_field at h
  unfold b_need_field
  rw [cs_ite (X := ⟨Rs.run tab sub (k + 4), sub⟩) (env := [some ((eT (e2 D.int D.int)) thing)]) (S := S) (ev_not (ev_call (es_cons (ev_var rfl) es_nil) (r_is_field (sub := sub) (k := k) (S := S) hs h.1)) t_bl) (t := false) (Eq.trans t_bl (congrArg some h.2))]
  simp only [Bool.false_eq_true, ↓reduceIte, capp]
  exact non_nil
theorem r_need_stake {k : Nat} {S : Store} {some_ : (List Int)} {thing : Int} (hs : OKS S) (h : ok_need_stake some_ thing) : run tab sub (k + 2) 8 [((eT D.int) some_), (D.int thing)] S = .ok D.non S := by
  refine run_N (v := ()) (show tab[8]? = some ⟨2, 2, false, b_need_stake⟩ from rfl) rfl rfl hs ?_
  show NonR S (evCs _ b_need_stake [some ((eT D.int) some_), some (D.int thing)] S) _
  unfold ok_need_stake at h
  unfold b_need_stake
  rw [cs_ite (X := ⟨Rs.run tab sub (k + 1), sub⟩) (env := [some ((eT D.int) some_), some (D.int thing)]) (S := S) (ev_or (ev_not (ev_call (es_cons (ev_var rfl) es_nil) (r_is_whole (sub := sub) (k := k) (S := S) hs h.1)) t_bl) (fun hb1 => (ev_cmp (ev_var rfl) (ev_var rfl) (o_ninT ge_int)))) (t := false) (Eq.trans t_bl (congrArg some h.2))]
  simp only [Bool.false_eq_true, ↓reduceIte, capp]
  exact non_nil
theorem r_need_stakeA {k : Nat} {S : Store} {some_ : (List Int)} {thing : Int} (hs : OKS S) (h : ok_need_stakeA some_ thing) : run tab sub (k + 2) 8 [((eL D.int) some_), (D.int thing)] S = .ok D.non S := by
  refine run_N (v := ()) (show tab[8]? = some ⟨2, 2, false, b_need_stake⟩ from rfl) rfl rfl hs ?_
  show NonR S (evCs _ b_need_stake [some ((eL D.int) some_), some (D.int thing)] S) _
  unfold ok_need_stakeA at h
  unfold b_need_stake
  rw [cs_ite (X := ⟨Rs.run tab sub (k + 1), sub⟩) (env := [some ((eL D.int) some_), some (D.int thing)]) (S := S) (ev_or (ev_not (ev_call (es_cons (ev_var rfl) es_nil) (r_is_whole (sub := sub) (k := k) (S := S) hs h.1)) t_bl) (fun hb1 => (ev_cmp (ev_var rfl) (ev_var rfl) (o_ninL ge_int)))) (t := false) (Eq.trans t_bl (congrArg some h.2))]
  simp only [Bool.false_eq_true, ↓reduceIte, capp]
  exact non_nil
theorem r_side {k : Nat} {S : Store} {field_ : (List (Int × Int))} {a : Int} {b : Int} {c : Int} (hs : OKS S) (h : ok_side field_ a b c) : run tab sub (k + 2) 9 [((eT (e2 D.int D.int)) field_), (D.int a), (D.int b), (D.int c)] S = .ok (D.int (v_side field_ a b c)) S := by
  refine run_P (e := D.int) (v := v_side field_ a b c) (show tab[9]? = some ⟨4, 5, false, b_side⟩ from rfl) rfl rfl hs ?_
  show FunG (QP D.int S) (evCs _ b_side [some ((eT (e2 D.int D.int)) field_), some (D.int a), some (D.int b), some (D.int c), none] S) _
  unfold ok_side at h
  unfold b_side v_side
  rw [cs_asg (X := ⟨Rs.run tab sub (k + 1), sub⟩) (env := [some ((eT (e2 D.int D.int)) field_), some (D.int a), some (D.int b), some (D.int c), none]) (S := S) (i := 4) (d := (D.int (v_bend (gI field_ a) (gI field_ b) (gI field_ c)))) (env1 := [some ((eT (e2 D.int D.int)) field_), some (D.int a), some (D.int b), some (D.int c), some (D.int (v_bend (gI field_ a) (gI field_ b) (gI field_ c)))]) (ev_call (es_cons (ev_ix (ev_var rfl) (ev_var rfl) (x_T h.1)) (es_cons (ev_ix (ev_var rfl) (ev_var rfl) (x_T h.2.1)) (es_cons (ev_ix (ev_var rfl) (ev_var rfl) (x_T h.2.2.1)) es_nil))) (r_bend (sub := sub) (k := k) (S := S) hs h.2.2.2)) rfl]
  exact fun_ret (ev_bop (ev_blt (es_cons (ev_cmp (ev_var rfl) ev_cst o_gt) es_nil) b_intB) (ev_blt (es_cons (ev_cmp (ev_var rfl) ev_cst o_lt) es_nil) b_intB) o_sub) (qp_leaf (ce_int _))
theorem r_turn {k : Nat} {S : Store} {field_ : (List (Int × Int))} {a : Int} {b : Int} {c : Int} (hs : OKS S) (h : ok_turn field_ a b c) : run tab sub (k + 6) 10 [((eT (e2 D.int D.int)) field_), (D.int a), (D.int b), (D.int c)] S = .ok (D.int (v_turn field_ a b c)) S := by
  refine run_P (e := D.int) (v := v_turn field_ a b c) (show tab[10]? = some ⟨4, 6, false, b_turn⟩ from rfl) rfl rfl hs ?_
  show FunG (QP D.int S) (evCs _ b_turn [some ((eT (e2 D.int D.int)) field_), some (D.int a), some (D.int b), some (D.int c), none, none] S) _
  unfold ok_turn at h
  unfold b_turn v_turn
  rw [cs_expr (X := ⟨Rs.run tab sub (k + 5), sub⟩) (env := [some ((eT (e2 D.int D.int)) field_), some (D.int a), some (D.int b), some (D.int c), none, none]) (S := S) (ev_call (es_cons (ev_var rfl) es_nil) (r_need_field (sub := sub) (k := k) (S := S) hs h.1))]
  rw [cs_asg (X := ⟨Rs.run tab sub (k + 5), sub⟩) (env := [some ((eT (e2 D.int D.int)) field_), some (D.int a), some (D.int b), some (D.int c), none, none]) (S := S) (i := 4) (d := ((eL D.int) (rgI 0 (field_.length : Int)))) (env1 := [some ((eT (e2 D.int D.int)) field_), some (D.int a), some (D.int b), some (D.int c), some ((eL D.int) (rgI 0 (field_.length : Int))), none]) (ev_rngL (es_cons (ev_blt (es_cons (ev_var rfl) es_nil) b_lenT) es_nil) (rng1 h.2.1)) rfl]
  rw [cs_expr (X := ⟨Rs.run tab sub (k + 5), sub⟩) (env := [some ((eT (e2 D.int D.int)) field_), some (D.int a), some (D.int b), some (D.int c), some ((eL D.int) (rgI 0 (field_.length : Int))), none]) (S := S) (ev_call (es_cons (ev_var rfl) (es_cons (ev_var rfl) es_nil)) (r_need_stakeA (sub := sub) (k := k + 3) (S := S) hs h.2.2.1))]
  rw [cs_expr (X := ⟨Rs.run tab sub (k + 5), sub⟩) (env := [some ((eT (e2 D.int D.int)) field_), some (D.int a), some (D.int b), some (D.int c), some ((eL D.int) (rgI 0 (field_.length : Int))), none]) (S := S) (ev_call (es_cons (lc_fid (e := D.int) (p := fun x1 => (!eqB x1 a)) (z := fun x1 => (D.bl (!eqB x1 a))) (w := fun x1 => [some ((eT (e2 D.int D.int)) field_), some (D.int a), some (D.int b), some (D.int c), some ((eL D.int) (rgI 0 (field_.length : Int))), some (D.int x1)]) (it_L (ev_var rfl)) (fun x1 hx2 => rfl) (fun x1 hx2 => (ev_cmp (ev_var rfl) (ev_var rfl) (o_ne ge_int))) (fun x1 hx2 => t_bl) (fun x1 hx2 => (ev_var rfl)) h.2.2.2.1) (es_cons (ev_var rfl) es_nil)) (r_need_stakeA (sub := sub) (k := k + 3) (S := S) hs h.2.2.2.2.1))]
  rw [cs_expr (X := ⟨Rs.run tab sub (k + 5), sub⟩) (env := [some ((eT (e2 D.int D.int)) field_), some (D.int a), some (D.int b), some (D.int c), some ((eL D.int) (rgI 0 (field_.length : Int))), none]) (S := S) (ev_call (es_cons (lc_fid (e := D.int) (p := fun x3 => (!memB x3 [a, b])) (z := fun x3 => (D.bl (!memB x3 [a, b]))) (w := fun x3 => [some ((eT (e2 D.int D.int)) field_), some (D.int a), some (D.int b), some (D.int c), some ((eL D.int) (rgI 0 (field_.length : Int))), some (D.int x3)]) (it_L (ev_var rfl)) (fun x3 hx4 => rfl) (fun x3 hx4 => (ev_cmp (ev_var rfl) (ev_tupT (e := D.int) (xs := [a, b]) (es_cons (ev_var rfl) (es_cons (ev_var rfl) es_nil)) (Nat.le_of_ble_eq_true rfl)) (o_ninT ge_int))) (fun x3 hx4 => t_bl) (fun x3 hx4 => (ev_var rfl)) h.2.2.2.2.2.1) (es_cons (ev_var rfl) es_nil)) (r_need_stakeA (sub := sub) (k := k + 3) (S := S) hs h.2.2.2.2.2.2.1))]
  exact fun_ret (ev_call (es_cons (ev_var rfl) (es_cons (ev_var rfl) (es_cons (ev_var rfl) (es_cons (ev_var rfl) es_nil)))) (r_side (sub := sub) (k := k + 3) (S := S) hs h.2.2.2.2.2.2.2)) (qp_leaf (ce_int _))
theorem r_alike_b5 {k : Nat} {S : Store} (hs : OKS S) (field_ : (List (Int × Int))) (other : (List (Int × Int)))  : ∀ (s6 : Unit) (x8 : (Int × Int × Int)) (env : Nv) (S_ : Store), (fun (s_ : Unit) (e_ : Nv) (S_ : Store) => ∃ j2 j3 j4 : Option D, e_ = [some ((eT (e2 D.int D.int)) field_), some ((eT (e2 D.int D.int)) other), j2, j3, j4] ∧ S = S_) s6 env S_ → ok_alike_b5 field_ other s6 x8 → ∃ env1 S1_, bindT ⟨Rs.run tab sub (k + 5), sub⟩ (.tup (.cons (.nm 2) (.cons (.nm 3) (.cons (.nm 4) .nil)))) ((e3 D.int D.int D.int) x8) env S_ = .ok env1 S1_ ∧ Blk (fun (s_ : Unit) (e_ : Nv) (S_ : Store) => ∃ j2 j3 j4 : Option D, e_ = [some ((eT (e2 D.int D.int)) field_), some ((eT (e2 D.int D.int)) other), j2, j3, j4] ∧ S = S_) (QP eD S) (evCs ⟨Rs.run tab sub (k + 5), sub⟩ b_alike_b1 env1 S1_) (v_alike_b5 field_ other s6 x8) := by
  rintro s6 x8 env S_ ⟨j2, j3, j4, rfl, rfl⟩ h
  unfold ok_alike_b5 at h
  refine ⟨[some ((eT (e2 D.int D.int)) field_), some ((eT (e2 D.int D.int)) other), some (D.int x8.1), some (D.int x8.2.1), some (D.int x8.2.2)], S, rfl, ?_⟩
  unfold b_alike_b1 v_alike_b5
  refine cs_if (x := (Lp.rt (D.tup [(D.str (Str.ofString "apart")), (D.int x8.1), (D.int x8.2.1), (D.int x8.2.2)]))) (y := (Lp.nx ())) (ev_cmp (ev_call (es_cons (ev_var rfl) (es_cons (ev_var rfl) (es_cons (ev_var rfl) (es_cons (ev_var rfl) es_nil)))) (r_side (sub := sub) (k := k + 3) (S := S) hs h.1)) (ev_call (es_cons (ev_var rfl) (es_cons (ev_var rfl) (es_cons (ev_var rfl) (es_cons (ev_var rfl) es_nil)))) (r_side (sub := sub) (k := k + 3) (S := S) hs h.2.1)) (o_ne ge_int)) t_bl (fun hb9 => ?_) (fun hb9 => ?_)
  · dsimp only [capp]
    exact blk_ret (ev_tup (es_cons ev_cst (es_cons (ev_var rfl) (es_cons (ev_var rfl) (es_cons (ev_var rfl) es_nil)))) (Nat.le_of_ble_eq_true rfl)) (qp_leaf (h.2.2 hb9))
  · dsimp only [capp]
    exact blk_nx ⟨_, _, _, rfl, rfl⟩
theorem r_alike {k : Nat} {S : Store} {field_ : (List (Int × Int))} {other : (List (Int × Int))} (hs : OKS S) (h : ok_alike field_ other) : run tab sub (k + 6) 11 [((eT (e2 D.int D.int)) field_), ((eT (e2 D.int D.int)) other)] S = .ok (v_alike field_ other) S := by
  refine run_P (e := eD) (v := v_alike field_ other) (show tab[11]? = some ⟨2, 5, false, b_alike⟩ from rfl) rfl rfl hs ?_
  show FunG (QP eD S) (evCs _ b_alike [some ((eT (e2 D.int D.int)) field_), some ((eT (e2 D.int D.int)) other), none, none, none] S) _
  unfold ok_alike at h
  unfold b_alike v_alike
  rw [cs_expr (X := ⟨Rs.run tab sub (k + 5), sub⟩) (env := [some ((eT (e2 D.int D.int)) field_), some ((eT (e2 D.int D.int)) other), none, none, none]) (S := S) (ev_call (es_cons (ev_var rfl) es_nil) (r_need_field (sub := sub) (k := k) (S := S) hs h.1))]
  rw [cs_expr (X := ⟨Rs.run tab sub (k + 5), sub⟩) (env := [some ((eT (e2 D.int D.int)) field_), some ((eT (e2 D.int D.int)) other), none, none, none]) (S := S) (ev_call (es_cons (ev_var rfl) es_nil) (r_need_field (sub := sub) (k := k) (S := S) hs h.2.1))]
  rw [cs_ite (X := ⟨Rs.run tab sub (k + 5), sub⟩) (env := [some ((eT (e2 D.int D.int)) field_), some ((eT (e2 D.int D.int)) other), none, none, none]) (S := S) (ev_cmp (ev_blt (es_cons (ev_var rfl) es_nil) b_lenT) (ev_blt (es_cons (ev_var rfl) es_nil) b_lenT) (o_ne ge_int)) (t := false) (Eq.trans t_bl (congrArg some h.2.2.1))]
  simp only [Bool.false_eq_true, ↓reduceIte, capp]
  have hl_ := for_rel (X := ⟨Rs.run tab sub (k + 5), sub⟩) (t := (.tup (.cons (.nm 2) (.cons (.nm 3) (.cons (.nm 4) .nil))))) (b := b_alike_b1) (P := (fun (s_ : Unit) (e_ : Nv) (S_ : Store) => ∃ j2 j3 j4 : Option D, e_ = [some ((eT (e2 D.int D.int)) field_), some ((eT (e2 D.int D.int)) other), j2, j3, j4] ∧ S = S_)) (Q := (QP eD S)) (e := (e3 D.int D.int D.int)) (step := (v_alike_b5 field_ other)) (ok := (ok_alike_b5 field_ other)) (r_alike_b5 (sub := sub) (k := k) (S := S) hs field_ other) (v_threes (field_.length : Int)) () [some ((eT (e2 D.int D.int)) field_), some ((eT (e2 D.int D.int)) other), none, none, none] S ⟨_, _, _, rfl, rfl⟩ h.2.2.2.2.1
  cases hv_s11 : (forV (v_alike_b5 field_ other) (v_threes (field_.length : Int)) ()) with
  | nx s11 =>
    rw [hv_s11] at hl_
    obtain ⟨e_, S_, hf_, j2, j3, j4, rfl, rfl⟩ := hl_
    rw [cs_for (X := ⟨Rs.run tab sub (k + 5), sub⟩) (env := [some ((eT (e2 D.int D.int)) field_), some ((eT (e2 D.int D.int)) other), none, none, none]) (S := S) (it_L (ev_call (es_cons (ev_blt (es_cons (ev_var rfl) es_nil) b_lenT) es_nil) (r_threes (sub := sub) (k := k + 4) (S := S) hs h.2.2.2.1))) hf_]
    dsimp only [Lp.fin]
    exact fun_ret (ev_tup (es_cons ev_cst es_nil) (Nat.le_of_ble_eq_true rfl)) (qp_leaf (h.2.2.2.2.2 s11 hv_s11))
  | bk s_ =>
    rw [hv_s11] at hl_
    exact hl_.elim
  | rt r_ =>
    rw [hv_s11] at hl_
    obtain ⟨d_, S_, hf_, hq_⟩ := hl_
    exact ⟨d_, S_, cs_for_rt (it_L (ev_call (es_cons (ev_blt (es_cons (ev_var rfl) es_nil) b_lenT) es_nil) (r_threes (sub := sub) (k := k + 4) (S := S) hs h.2.2.2.1))) hf_, hq_⟩
theorem r_law_cell_at {k : Nat} {S : Store} {script : (List Int)} {k_ : Int} (hs : OKS S) (h : ok_law_cell_at script k_) : run tab sub (k + 1) 12 [(D.scr script), (D.int k_)] S = .ok (D.int (v_law_cell_at script k_)) S := by
  refine run_P (e := D.int) (v := v_law_cell_at script k_) (show tab[12]? = some ⟨2, 2, false, b__law_cell_at⟩ from rfl) rfl rfl hs ?_
  show FunG (QP D.int S) (evCs _ b__law_cell_at [some (D.scr script), some (D.int k_)] S) _
  unfold ok_law_cell_at at h
  unfold b__law_cell_at v_law_cell_at
  refine cs_if (x := (gI script k_)) (y := (0 : Int)) (ev_cmp (ev_var rfl) (ev_blt (es_cons (ev_var rfl) es_nil) b_lenScr) o_lt) t_bl (fun hb1 => ?_) (fun hb1 => ?_)
  · dsimp only [capp]
    exact fun_ret (ev_ix (ev_var rfl) (ev_var rfl) (x_scr (h hb1))) (qp_leaf (ce_int _))
  · dsimp only [capp]
    exact fun_ret ev_cst (qp_leaf (ce_int _))
theorem r_law_pen {k : Nat} {S : Store} {c : Int} : run tab sub (k + 1) 13 [.int c] S = .ok (.ref S.length) (S ++ [penC (penV c)]) := run_pen (show tab[13]? = _ from rfl) c
theorem r_law_draw {k : Nat} {S : Store} {p : Nat} {q : Pen} {m : Int} (hs : OKS S) (hp : p < S.length) (h : ok_law_draw q m) : run tab sub (k + 1) 14 [D.ref p, D.int m] (S.set p (penC q)) = .ok (D.int (v_law_draw q m).1) (S.set p (penC (v_law_draw q m).2)) := run_draw (show tab[14]? = _ from rfl) hs hp h
theorem r_law_same {k : Nat} {S : Store} {found : D} {due : D} (hs : OKS S) (h : ok_law_same found due) : run tab sub (k + 1) 15 [found, due] S = .ok (D.bl (v_law_same found due)) S := by
  refine run_P (e := D.bl) (v := v_law_same found due) (show tab[15]? = some ⟨2, 2, false, b__law_same⟩ from rfl) rfl rfl hs ?_
  show FunG (QP D.bl S) (evCs _ b__law_same [some found, some due] S) _
  unfold ok_law_same at h
  unfold b__law_same v_law_same
  exact fun_ret (ev_cmp (ev_blt (es_cons (ev_var rfl) es_nil) (b_repr h.1)) (ev_blt (es_cons (ev_var rfl) es_nil) (b_repr h.2)) o_eqS) (qp_leaf (ce_bl _))
theorem r_law_mixed_b2 {k : Nat} {S : Store} {p : Nat} (hp : p < S.length) {k_left : Nat} (hk_left : S.length ≤ k_left) {k_found : Nat} (hk_found : S.length ≤ k_found) (ne_left_found : k_left ≠ k_found) (q : Pen) (some_ : (List Int))  : ∀ (s3 : (List Int) × (List Int) × Pen) (x5 : Int) (env : Nv) (S_ : Store), (fun (s_ : (List Int) × (List Int) × Pen) (e_ : Nv) (S_ : Store) => ∃ (j1 : Option D) (B_ : Store), e_ = [some (D.ref p), some ((eT D.int) some_), j1, some (D.ref k_left), some (D.ref k_found)] ∧ (OKS B_ ∧ Fr S B_ ∧ B_[k_left]? = some (Cell.lst (s_.1.map D.int)) ∧ B_[k_found]? = some (Cell.lst (s_.2.1.map D.int)) ∧ True) ∧ (List.set B_ p (penC s_.2.2)) = S_) s3 env S_ → ok_law_mixed_b2 q some_ s3 x5 → ∃ env1 S1_, bindT ⟨Rs.run tab sub (k + 1), sub⟩ (.nm 2) (D.int x5) env S_ = .ok env1 S1_ ∧ NxR (fun (s_ : (List Int) × (List Int) × Pen) (e_ : Nv) (S_ : Store) => ∃ (j1 : Option D) (B_ : Store), e_ = [some (D.ref p), some ((eT D.int) some_), j1, some (D.ref k_left), some (D.ref k_found)] ∧ (OKS B_ ∧ Fr S B_ ∧ B_[k_left]? = some (Cell.lst (s_.1.map D.int)) ∧ B_[k_found]? = some (Cell.lst (s_.2.1.map D.int)) ∧ True) ∧ (List.set B_ p (penC s_.2.2)) = S_) (evCs ⟨Rs.run tab sub (k + 1), sub⟩ b__law_mixed_b1 env1 S1_) (v_law_mixed_b2 q some_ s3 x5) := by
  rintro s3 x5 env S_ ⟨j1, Bz4, rfl, ⟨obz4, fbz4, g_left_z4, g_found_z4, _⟩, rfl⟩ h
  unfold ok_law_mixed_b2 at h
  refine ⟨[some (D.ref p), some ((eT D.int) some_), some (D.int x5), some (D.ref k_left), some (D.ref k_found)], (List.set Bz4 p (penC s3.2.2)), rfl, ?_⟩
  unfold b__law_mixed_b1 v_law_mixed_b2
  rw [cs_expr (X := ⟨Rs.run tab sub (k + 1), sub⟩) (env := [some (D.ref p), some ((eT D.int) some_), some (D.int x5), some (D.ref k_left), some (D.ref k_found)]) (S := (List.set Bz4 p (penC s3.2.2))) (S1 := (List.set (List.set (List.set Bz4 k_left (Cell.lst ((popI s3.1 (v_law_mixed_t6 s3).1).map D.int))) p (penC (v_law_mixed_t6 s3).2)) k_found (Cell.lst ((s3.2.1 ++ [(gI s3.1 (v_law_mixed_t6 s3).1)]).map D.int)))) (ev_appM (e := D.int) (xs := s3.2.1) (ys := s3.2.1) (v := (gI s3.1 (v_law_mixed_t6 s3).1)) (ev_var rfl) (get_pen g_found_z4 (ne_pen hp hk_found)) (show _ = R.ok _ (List.set (List.set Bz4 k_left (Cell.lst ((popI s3.1 (v_law_mixed_t6 s3).1).map D.int))) p (penC (v_law_mixed_t6 s3).2)) from (set_swap (ne_pen hp hk_left)) ▸ (ev_ppiM (e := D.int) (xs := s3.1) (ys := s3.1) (ev_var rfl) (get_pen g_left_z4 (ne_pen hp hk_left)) (ev_call (es_cons (ev_var rfl) (es_cons (ev_blt (es_cons (ev_var rfl) es_nil) (b_ref (e := D.int) (xs := s3.1) (get_pen g_left_z4 (ne_pen hp hk_left)) b_lenL)) es_nil)) (show _ = R.ok (D.int (v_law_mixed_t6 s3).1) (List.set Bz4 p (penC (v_law_mixed_t6 s3).2)) from (r_law_draw (sub := sub) (k := k) (S := Bz4) (p := p) (q := s3.2.2) obz4 (fr_lt fbz4 hp) h.1))) (get_pen g_left_z4 (ne_pen hp hk_left)) h.2.1 h.2.2.1)) (get_pen (get_pen g_found_z4 ne_left_found) (ne_pen hp hk_found)) h.2.2.2), set_swap (ne_pen hp hk_found)]
  exact nx_nil ⟨_, (List.set (List.set Bz4 k_left (Cell.lst ((popI s3.1 (v_law_mixed_t6 s3).1).map D.int))) k_found (Cell.lst ((s3.2.1 ++ [(gI s3.1 (v_law_mixed_t6 s3).1)]).map D.int))), rfl, ⟨(oks_setL (oks_setL obz4 (cell_ce ce_int)) (cell_ce ce_int)), (fr_set (fr_set fbz4 hk_left) hk_found), (get_pen (get_set (c := (Cell.lst ((popI s3.1 (v_law_mixed_t6 s3).1).map D.int))) g_left_z4) (Ne.symm ne_left_found)), (get_set (c := (Cell.lst ((s3.2.1 ++ [(gI s3.1 (v_law_mixed_t6 s3).1)]).map D.int))) (get_pen g_found_z4 ne_left_found)), trivial⟩, rfl⟩
theorem r_law_mixed {k : Nat} {S : Store} {p : Nat} {q : Pen} {some_ : (List Int)} (hs : OKS S) (hp : p < S.length) (h : ok_law_mixed q some_) : run tab sub (k + 2) 16 [D.ref p, ((eT D.int) some_)] (S.set p (penC q)) = .ok ((eL D.int) (v_law_mixed q some_).1) (S.set p (penC (v_law_mixed q some_).2)) := by
  refine run_Q (e := (eL D.int)) (v := v_law_mixed q some_) (show tab[16]? = some ⟨2, 5, false, b__law_mixed⟩ from rfl) rfl rfl hs ?_
  show FunG (QQ (eL D.int) S p) (evCs _ b__law_mixed [some (D.ref p), some ((eT D.int) some_), none, none, none] (S.set p (penC q))) _
  unfold ok_law_mixed at h
  unfold b__law_mixed v_law_mixed
  rw [cs_par (X := ⟨Rs.run tab sub (k + 1), sub⟩) (env := [some (D.ref p), some ((eT D.int) some_), none, none, none]) (S := (List.set S p (penC q))) (ts := [3, 4]) (env1 := [some (D.ref p), some ((eT D.int) some_), none, some (D.ref S.length), some (D.ref (S ++ [(Cell.lst (some_.map D.int))]).length)]) (es_cons (ev_mutP (e := D.int) (xs := some_) (ev_blt (es_cons (ev_var rfl) es_nil) b_listT) (fr_lt fr_refl hp)) (es_cons (ev_mutP (e := D.int) (xs := ([] : (List Int))) (ev_lstL (e := D.int) (xs := []) es_nil (Nat.le_of_ble_eq_true rfl)) (fr_lt (fr_push fr_refl) hp)) es_nil)) rfl]
  obtain ⟨e_, S_, hf_, j1, Bz7, rfl, ⟨obz7, fbz7, g_left_z7, g_found_z7, _⟩, rfl⟩ := for_fld2 (X := ⟨Rs.run tab sub (k + 1), sub⟩) (t := (.nm 2)) (b := b__law_mixed_b1) (P := (fun (s_ : (List Int) × (List Int) × Pen) (e_ : Nv) (S_ : Store) => ∃ (j1 : Option D) (B_ : Store), e_ = [some (D.ref p), some ((eT D.int) some_), j1, some (D.ref S.length), some (D.ref (S ++ [(Cell.lst (some_.map D.int))]).length)] ∧ (OKS B_ ∧ Fr S B_ ∧ B_[S.length]? = some (Cell.lst (s_.1.map D.int)) ∧ B_[(S ++ [(Cell.lst (some_.map D.int))]).length]? = some (Cell.lst (s_.2.1.map D.int)) ∧ True) ∧ (List.set B_ p (penC s_.2.2)) = S_)) (e := D.int) (step := (v_law_mixed_b2 q some_)) (ok := (ok_law_mixed_b2 q some_)) (r_law_mixed_b2 (sub := sub) (k := k) (S := S) (p := p) hp (k_left := S.length) (fr_le fr_refl) (k_found := (S ++ [(Cell.lst (some_.map D.int))]).length) (fr_le (fr_push fr_refl)) (Nat.ne_of_lt (get_lt (get_new (B := S) (c := (Cell.lst (some_.map D.int))))))  q some_) (rgI 0 (some_.length : Int)) (some_, ([] : (List Int)), q) [some (D.ref p), some ((eT D.int) some_), none, some (D.ref S.length), some (D.ref (S ++ [(Cell.lst (some_.map D.int))]).length)] (List.set ((S ++ [(Cell.lst (some_.map D.int))]) ++ [(Cell.lst (([] : (List Int)).map D.int))]) p (penC q)) ⟨_, ((S ++ [(Cell.lst (some_.map D.int))]) ++ [(Cell.lst (([] : (List Int)).map D.int))]), rfl, ⟨(oks_pushL (oks_pushL hs (cell_ce ce_int)) (cell_ce ce_int)), (fr_push (fr_push fr_refl)), (get_push (get_new (B := S) (c := (Cell.lst (some_.map D.int))))), (get_new (B := (S ++ [(Cell.lst (some_.map D.int))])) (c := (Cell.lst (([] : (List Int)).map D.int)))), trivial⟩, rfl⟩ h.2 (show (List.foldl (v_law_mixed_b2 q some_) (some_, ([] : (List Int)), q) (rgI 0 (some_.length : Int))) = (v_law_mixed_l8 q some_) from rfl)
  rw [cs_for (X := ⟨Rs.run tab sub (k + 1), sub⟩) (env := [some (D.ref p), some ((eT D.int) some_), none, some (D.ref S.length), some (D.ref (S ++ [(Cell.lst (some_.map D.int))]).length)]) (S := (List.set ((S ++ [(Cell.lst (some_.map D.int))]) ++ [(Cell.lst (([] : (List Int)).map D.int))]) p (penC q))) (it_rng (es_cons (ev_blt (es_cons (ev_var rfl) es_nil) b_lenT) es_nil) (rng1 h.1)) hf_]
  exact fun_ret (ev_var rfl) (qq_leafR (v := ((v_law_mixed_l8 q some_).2.1, (v_law_mixed_l8 q some_).2.2)) fbz7 hp (get_pen g_found_z7 (ne_pen hp (fr_le (fr_push fr_refl)))) (fr_le (fr_push fr_refl)) ce_int)
theorem r_law_bend {k : Nat} {S : Store} {one : (Int × Int)} {other : (Int × Int)} {third : (Int × Int)} (hs : OKS S) (h : ok_law_bend one other third) : run tab sub (k + 1) 17 [((e2 D.int D.int) one), ((e2 D.int D.int) other), ((e2 D.int D.int) third)] S = .ok (D.int (v_law_bend one other third)) S := by
  refine run_P (e := D.int) (v := v_law_bend one other third) (show tab[17]? = some ⟨3, 5, false, b__law_bend⟩ from rfl) rfl rfl hs ?_
  show FunG (QP D.int S) (evCs _ b__law_bend [some ((e2 D.int D.int) one), some ((e2 D.int D.int) other), some ((e2 D.int D.int) third), none, none] S) _
  unfold ok_law_bend at h
  unfold b__law_bend v_law_bend
  rw [cs_par (X := ⟨Rs.run tab sub k, sub⟩) (env := [some ((e2 D.int D.int) one), some ((e2 D.int D.int) other), some ((e2 D.int D.int) third), none, none]) (S := S) (ts := [3, 4]) (env1 := [some ((e2 D.int D.int) one), some ((e2 D.int D.int) other), some ((e2 D.int D.int) third), some (D.int (other.1 - one.1)), some (D.int (other.2 - one.2))]) (es_cons (ev_bop (ev_ix (ev_var rfl) ev_cst rfl) (ev_ix (ev_var rfl) ev_cst rfl) o_sub) (es_cons (ev_bop (ev_ix (ev_var rfl) ev_cst rfl) (ev_ix (ev_var rfl) ev_cst rfl) o_sub) es_nil)) rfl]
  exact fun_ret (ev_bop (ev_bop (ev_var rfl) (ev_bop (ev_ix (ev_var rfl) ev_cst rfl) (ev_ix (ev_var rfl) ev_cst rfl) o_sub) (o_mul h.1)) (ev_bop (ev_var rfl) (ev_bop (ev_ix (ev_var rfl) ev_cst rfl) (ev_ix (ev_var rfl) ev_cst rfl) o_sub) (o_mul h.2)) o_sub) (qp_leaf (ce_int _))
theorem r_law_is_free_b4 {k : Nat} {S : Store} (hs : OKS S) (places : (List (Int × Int))) (place : (Int × Int))  : ∀ (s5 : Unit) (x7 : (Int × (Int × Int))) (env : Nv) (S_ : Store), (fun (s_ : Unit) (e_ : Nv) (S_ : Store) => ∃ j2 j3 : Option D, e_ = [some ((eT (e2 D.int D.int)) places), some ((e2 D.int D.int) place), j2, j3, none] ∧ S = S_) s5 env S_ → ok_law_is_free_b4 places place s5 x7 → ∃ env1 S1_, bindT ⟨Rs.run tab sub (k + 1), sub⟩ (.tup (.cons (.nm 2) (.cons (.nm 3) .nil))) ((e2 D.int (e2 D.int D.int)) x7) env S_ = .ok env1 S1_ ∧ Blk (fun (s_ : Unit) (e_ : Nv) (S_ : Store) => ∃ j2 j3 : Option D, e_ = [some ((eT (e2 D.int D.int)) places), some ((e2 D.int D.int) place), j2, j3, none] ∧ S = S_) (QP D.bl S) (evCs ⟨Rs.run tab sub (k + 1), sub⟩ b__law_is_free_b1 env1 S1_) (v_law_is_free_b4 places place s5 x7) := by
  rintro s5 x7 env S_ ⟨j2, j3, rfl, rfl⟩ h
  unfold ok_law_is_free_b4 at h
  refine ⟨[some ((eT (e2 D.int D.int)) places), some ((e2 D.int D.int) place), some (D.int x7.1), some ((e2 D.int D.int) x7.2), none], S, rfl, ?_⟩
  unfold b__law_is_free_b1 v_law_is_free_b4
  refine cs_if (x := (Lp.rt false)) (y := (Lp.nx ())) (ev_cmp (lc_fil (e := (e2 D.int D.int)) (e' := D.int) (p := fun x8 => (eqB (v_law_bend x7.2 x8 place) (0 : Int))) (G := fun x8 => (1 : Int)) (z := fun x8 => (D.bl (eqB (v_law_bend x7.2 x8 place) (0 : Int)))) (w := fun x8 => [some ((eT (e2 D.int D.int)) places), some ((e2 D.int D.int) place), some (D.int x7.1), some ((e2 D.int D.int) x7.2), some ((e2 D.int D.int) x8)]) (it_T (ev_sl (ev_var rfl) (pp_one (ev_bop (ev_var rfl) ev_cst o_add)) pt_nil s_T)) (fun x8 hx9 => rfl) (fun x8 hx9 => (ev_cmp (ev_call (es_cons (ev_var rfl) (es_cons (ev_var rfl) (es_cons (ev_var rfl) es_nil))) (r_law_bend (sub := sub) (k := k) (S := S) hs (h.1 x8 hx9))) ev_cst (o_eq ge_int))) (fun x8 hx9 => t_bl) (fun x8 hx9 hb10 => ev_cst) h.2) (ev_lstL (e := D.int) (xs := []) es_nil (Nat.le_of_ble_eq_true rfl)) (o_ne (ge_L ge_int))) t_bl (fun hb11 => ?_) (fun hb11 => ?_)
  · dsimp only [capp]
    exact blk_ret ev_cst (qp_leaf (ce_bl _))
  · dsimp only [capp]
    exact blk_nx ⟨_, _, rfl, rfl⟩
theorem r_law_is_free {k : Nat} {S : Store} {places : (List (Int × Int))} {place : (Int × Int)} (hs : OKS S) (h : ok_law_is_free places place) : run tab sub (k + 2) 18 [((eT (e2 D.int D.int)) places), ((e2 D.int D.int) place)] S = .ok (D.bl (v_law_is_free places place)) S := by
  refine run_P (e := D.bl) (v := v_law_is_free places place) (show tab[18]? = some ⟨2, 5, false, b__law_is_free⟩ from rfl) rfl rfl hs ?_
  show FunG (QP D.bl S) (evCs _ b__law_is_free [some ((eT (e2 D.int D.int)) places), some ((e2 D.int D.int) place), none, none, none] S) _
  unfold ok_law_is_free at h
  unfold b__law_is_free v_law_is_free
  refine cs_if (x := false) (y := ((forV (v_law_is_free_b4 places place) (enV 0 places) ()).fin (fun s13 => true) (fun r => r))) (ev_cmp (ev_var rfl) (ev_var rfl) (o_inT (ge_2 ge_int ge_int))) t_bl (fun hb1 => ?_) (fun hb1 => ?_)
  · dsimp only [capp]
    exact fun_ret ev_cst (qp_leaf (ce_bl _))
  · dsimp only [capp]
    have hl_ := for_rel (X := ⟨Rs.run tab sub (k + 1), sub⟩) (t := (.tup (.cons (.nm 2) (.cons (.nm 3) .nil)))) (b := b__law_is_free_b1) (P := (fun (s_ : Unit) (e_ : Nv) (S_ : Store) => ∃ j2 j3 : Option D, e_ = [some ((eT (e2 D.int D.int)) places), some ((e2 D.int D.int) place), j2, j3, none] ∧ S = S_)) (Q := (QP D.bl S)) (e := (e2 D.int (e2 D.int D.int))) (step := (v_law_is_free_b4 places place)) (ok := (ok_law_is_free_b4 places place)) (r_law_is_free_b4 (sub := sub) (k := k) (S := S) hs places place) (enV 0 places) () [some ((eT (e2 D.int D.int)) places), some ((e2 D.int D.int) place), none, none, none] S ⟨_, _, rfl, rfl⟩ (h hb1)
    cases hv_s13 : (forV (v_law_is_free_b4 places place) (enV 0 places) ()) with
    | nx s13 =>
      rw [hv_s13] at hl_
      obtain ⟨e_, S_, hf_, j2, j3, rfl, rfl⟩ := hl_
      rw [cs_for (X := ⟨Rs.run tab sub (k + 1), sub⟩) (env := [some ((eT (e2 D.int D.int)) places), some ((e2 D.int D.int) place), none, none, none]) (S := S) (it_enuT (ev_var rfl)) hf_]
      dsimp only [Lp.fin]
      exact fun_ret ev_cst (qp_leaf (ce_bl _))
    | bk s_ =>
      rw [hv_s13] at hl_
      exact hl_.elim
    | rt r_ =>
      rw [hv_s13] at hl_
      obtain ⟨d_, S_, hf_, hq_⟩ := hl_
      exact ⟨d_, S_, cs_for_rt (it_enuT (ev_var rfl)) hf_, hq_⟩
theorem r_law_field_b8 {k : Nat} {S : Store} (hs : OKS S) {p : Nat} (hp : p < S.length) (q : Pen) (most : Int)  : ∀ (s9 : (List (Int × Int)) × Pen) (x11 : Int) (env : Nv) (S_ : Store), (fun (s_ : (List (Int × Int)) × Pen) (e_ : Nv) (S_ : Store) => ∃ j6 j7 : Option D, e_ = [some (D.ref p), some (D.int most), j6, some (D.int (v_law_field_wide_3 q)), some (D.int (v_law_field_many_5 q most)), some ((eT (e2 D.int D.int)) s_.1), j7] ∧ (List.set S p (penC s_.2)) = S_) s9 env S_ → ok_law_field_b8 q most s9 x11 → ∃ env1 S1_, bindT ⟨Rs.run tab sub (k + 2), sub⟩ (.nm 2) (D.int x11) env S_ = .ok env1 S1_ ∧ NxR (fun (s_ : (List (Int × Int)) × Pen) (e_ : Nv) (S_ : Store) => ∃ j6 j7 : Option D, e_ = [some (D.ref p), some (D.int most), j6, some (D.int (v_law_field_wide_3 q)), some (D.int (v_law_field_many_5 q most)), some ((eT (e2 D.int D.int)) s_.1), j7] ∧ (List.set S p (penC s_.2)) = S_) (evCs ⟨Rs.run tab sub (k + 2), sub⟩ b__law_field_b1 env1 S1_) (v_law_field_b8 q most s9 x11) := by
  rintro s9 x11 env S_ ⟨j6, j7, rfl, rfl⟩ h
  unfold ok_law_field_b8 at h
  refine ⟨[some (D.ref p), some (D.int most), some (D.int x11), some (D.int (v_law_field_wide_3 q)), some (D.int (v_law_field_many_5 q most)), some ((eT (e2 D.int D.int)) s9.1), j7], (List.set S p (penC s9.2)), rfl, ?_⟩
  unfold b__law_field_b1 v_law_field_b8
  rw [cs_asg (X := ⟨Rs.run tab sub (k + 2), sub⟩) (env := [some (D.ref p), some (D.int most), some (D.int x11), some (D.int (v_law_field_wide_3 q)), some (D.int (v_law_field_many_5 q most)), some ((eT (e2 D.int D.int)) s9.1), j7]) (S := (List.set S p (penC s9.2))) (i := 6) (d := ((e2 D.int D.int) ((v_law_field_t12 q s9).1, (v_law_field_t13 q s9).1))) (env1 := [some (D.ref p), some (D.int most), some (D.int x11), some (D.int (v_law_field_wide_3 q)), some (D.int (v_law_field_many_5 q most)), some ((eT (e2 D.int D.int)) s9.1), some ((e2 D.int D.int) ((v_law_field_t12 q s9).1, (v_law_field_t13 q s9).1))]) (ev_tup2 (a := D.int) (b := D.int) (x := (v_law_field_t12 q s9).1) (y := (v_law_field_t13 q s9).1) (es_cons (ev_call (es_cons (ev_var rfl) (es_cons (ev_bop (ev_var rfl) ev_cst o_add) es_nil)) (show _ = R.ok (D.int (v_law_field_t12 q s9).1) (List.set S p (penC (v_law_field_t12 q s9).2)) from (r_law_draw (sub := sub) (k := k + 1) (S := S) (p := p) (q := s9.2) hs hp h.1))) (es_cons (ev_call (es_cons (ev_var rfl) (es_cons (ev_bop (ev_var rfl) ev_cst o_add) es_nil)) (show _ = R.ok (D.int (v_law_field_t13 q s9).1) (List.set S p (penC (v_law_field_t13 q s9).2)) from (r_law_draw (sub := sub) (k := k + 1) (S := S) (p := p) (q := (v_law_field_t12 q s9).2) hs hp h.2.1))) es_nil))) rfl]
  obtain ⟨e_, S_, hj_, rfl, rfl⟩ := cs_join2 (X := ⟨Rs.run tab sub (k + 2), sub⟩) (env := [some (D.ref p), some (D.int most), some (D.int x11), some (D.int (v_law_field_wide_3 q)), some (D.int (v_law_field_many_5 q most)), some ((eT (e2 D.int D.int)) s9.1), some ((e2 D.int D.int) ((v_law_field_t12 q s9).1, (v_law_field_t13 q s9).1))]) (S := (List.set S p (penC (v_law_field_t13 q s9).2))) (v := (v_law_field_j19 q s9)) (c := (.cmp .eq (.call 14 (.cons (.var 0) (.cons (.cst (.int 5)) .nil))) (.cst (.int 0)))) (a := (.cons (.asg (.nm 6) (.tup (.cons (.ix (.var 6) (.cst (.int 0))) (.cons (.ix (.lst (.cons (.cst (.int 0)) (.cons (.var 3) .nil))) (.call 14 (.cons (.var 0) (.cons (.cst (.int 2)) .nil)))) .nil)))) .nil)) (b := .nil) (P := (fun (s_ : (Int × Int) × Pen) (e_ : Nv) (S_ : Store) => e_ = [some (D.ref p), some (D.int most), some (D.int x11), some (D.int (v_law_field_wide_3 q)), some (D.int (v_law_field_many_5 q most)), some ((eT (e2 D.int D.int)) s9.1), some ((e2 D.int D.int) s_.1)] ∧ (List.set S p (penC s_.2)) = S_)) (x := ((v_law_field_place_18 q s9), (v_law_field_t17 q s9).2)) (y := (((v_law_field_t12 q s9).1, (v_law_field_t13 q s9).1), (v_law_field_t14 q s9).2)) (ev_cmp (ev_call (es_cons (ev_var rfl) (es_cons ev_cst es_nil)) (show _ = R.ok (D.int (v_law_field_t14 q s9).1) (List.set S p (penC (v_law_field_t14 q s9).2)) from (r_law_draw (sub := sub) (k := k + 1) (S := S) (p := p) (q := (v_law_field_t13 q s9).2) hs hp h.2.2.1))) ev_cst (o_eq ge_int)) t_bl (fun hb15 => by
      rw [cs_asg (X := ⟨Rs.run tab sub (k + 2), sub⟩) (env := [some (D.ref p), some (D.int most), some (D.int x11), some (D.int (v_law_field_wide_3 q)), some (D.int (v_law_field_many_5 q most)), some ((eT (e2 D.int D.int)) s9.1), some ((e2 D.int D.int) ((v_law_field_t12 q s9).1, (v_law_field_t13 q s9).1))]) (S := (List.set S p (penC (v_law_field_t14 q s9).2))) (i := 6) (d := ((e2 D.int D.int) (v_law_field_place_18 q s9))) (env1 := [some (D.ref p), some (D.int most), some (D.int x11), some (D.int (v_law_field_wide_3 q)), some (D.int (v_law_field_many_5 q most)), some ((eT (e2 D.int D.int)) s9.1), some ((e2 D.int D.int) (v_law_field_place_18 q s9))]) (ev_tup2 (a := D.int) (b := D.int) (x := ((v_law_field_t12 q s9).1, (v_law_field_t13 q s9).1).1) (y := (gI [(0 : Int), (v_law_field_wide_3 q)] (v_law_field_t17 q s9).1)) (es_cons (ev_ix (ev_var rfl) ev_cst rfl) (es_cons (ev_ix (ev_lstL (e := D.int) (xs := [(0 : Int), (v_law_field_wide_3 q)]) (es_cons ev_cst (es_cons (ev_var rfl) es_nil)) (Nat.le_of_ble_eq_true rfl)) (ev_call (es_cons (ev_var rfl) (es_cons ev_cst es_nil)) (show _ = R.ok (D.int (v_law_field_t17 q s9).1) (List.set S p (penC (v_law_field_t17 q s9).2)) from (r_law_draw (sub := sub) (k := k + 1) (S := S) (p := p) (q := (v_law_field_t14 q s9).2) hs hp (h.2.2.2.1 hb15).1))) (x_L (h.2.2.2.1 hb15).2)) es_nil))) rfl]
      exact nx_nil ⟨rfl, rfl⟩) (fun hb15 => by
      exact nx_nil ⟨rfl, rfl⟩) rfl
  rw [cs_step hj_]
  refine cs_if (x := ((s9.1 ++ [(v_law_field_j19 q s9).1]), (v_law_field_j19 q s9).2)) (y := (s9.1, (v_law_field_j19 q s9).2)) (ev_and (ev_cmp (ev_blt (es_cons (ev_var rfl) es_nil) b_lenT) (ev_var rfl) o_lt) (fun hb20 => (ev_call (es_cons (ev_var rfl) (es_cons (ev_var rfl) es_nil)) (r_law_is_free (sub := sub) (k := k) (S := (List.set S p (penC (v_law_field_j19 q s9).2))) (oks_pen hs) (h.2.2.2.2.1 hb20))))) t_bl (fun hb21 => ?_) (fun hb21 => ?_)
  · dsimp only [capp]
    rw [cs_asg (X := ⟨Rs.run tab sub (k + 2), sub⟩) (env := [some (D.ref p), some (D.int most), some (D.int x11), some (D.int (v_law_field_wide_3 q)), some (D.int (v_law_field_many_5 q most)), some ((eT (e2 D.int D.int)) s9.1), some ((e2 D.int D.int) (v_law_field_j19 q s9).1)]) (S := (List.set S p (penC (v_law_field_j19 q s9).2))) (i := 5) (d := ((eT (e2 D.int D.int)) (s9.1 ++ [(v_law_field_j19 q s9).1]))) (env1 := [some (D.ref p), some (D.int most), some (D.int x11), some (D.int (v_law_field_wide_3 q)), some (D.int (v_law_field_many_5 q most)), some ((eT (e2 D.int D.int)) (s9.1 ++ [(v_law_field_j19 q s9).1])), some ((e2 D.int D.int) (v_law_field_j19 q s9).1)]) (ev_bop (ev_var rfl) (ev_tupT (e := (e2 D.int D.int)) (xs := [(v_law_field_j19 q s9).1]) (es_cons (ev_var rfl) es_nil) (Nat.le_of_ble_eq_true rfl)) (o_addT (h.2.2.2.2.2 hb21))) rfl]
    exact nx_nil ⟨_, _, rfl, rfl⟩
  · dsimp only [capp]
    exact nx_nil ⟨_, _, rfl, rfl⟩
theorem r_law_field {k : Nat} {S : Store} {p : Nat} {q : Pen} {most : Int} (hs : OKS S) (hp : p < S.length) (h : ok_law_field q most) : run tab sub (k + 3) 19 [D.ref p, (D.int most)] (S.set p (penC q)) = .ok ((eT (e2 D.int D.int)) (v_law_field q most).1) (S.set p (penC (v_law_field q most).2)) := by
  refine run_Q (e := (eT (e2 D.int D.int))) (v := v_law_field q most) (show tab[19]? = some ⟨2, 7, false, b__law_field⟩ from rfl) rfl rfl hs ?_
  show FunG (QQ (eT (e2 D.int D.int)) S p) (evCs _ b__law_field [some (D.ref p), some (D.int most), none, none, none, none, none] (S.set p (penC q))) _
  unfold ok_law_field at h
  unfold b__law_field v_law_field
  rw [cs_par (X := ⟨Rs.run tab sub (k + 2), sub⟩) (env := [some (D.ref p), some (D.int most), none, none, none, none, none]) (S := (List.set S p (penC q))) (ts := [3, 4]) (env1 := [some (D.ref p), some (D.int most), none, some (D.int (v_law_field_wide_3 q)), some (D.int ((1 : Int) + (v_law_field_t2 q most).1)), none, none]) (es_cons (ev_ix (ev_lstL (e := D.int) (xs := [(3 : Int), (6 : Int), (12 : Int), (40 : Int)]) (es_cons ev_cst (es_cons ev_cst (es_cons ev_cst (es_cons ev_cst es_nil)))) (Nat.le_of_ble_eq_true rfl)) (ev_call (es_cons (ev_var rfl) (es_cons ev_cst es_nil)) (show _ = R.ok (D.int (v_law_field_t1 q).1) (List.set S p (penC (v_law_field_t1 q).2)) from (r_law_draw (sub := sub) (k := k + 1) (S := S) (p := p) (q := q) hs hp h.1))) (x_L h.2.1)) (es_cons (ev_bop ev_cst (ev_call (es_cons (ev_var rfl) (es_cons (ev_var rfl) es_nil)) (show _ = R.ok (D.int (v_law_field_t2 q most).1) (List.set S p (penC (v_law_field_t2 q most).2)) from (r_law_draw (sub := sub) (k := k + 1) (S := S) (p := p) (q := (v_law_field_t1 q).2) hs hp h.2.2.1))) o_add) es_nil)) rfl]
  rw [cs_par (X := ⟨Rs.run tab sub (k + 2), sub⟩) (env := [some (D.ref p), some (D.int most), none, some (D.int (v_law_field_wide_3 q)), some (D.int ((1 : Int) + (v_law_field_t2 q most).1)), none, none]) (S := (List.set S p (penC (v_law_field_t2 q most).2))) (ts := [4, 5]) (env1 := [some (D.ref p), some (D.int most), none, some (D.int (v_law_field_wide_3 q)), some (D.int (v_law_field_many_5 q most)), some ((eT (e2 D.int D.int)) ([] : (List (Int × Int)))), none]) (es_cons (ev_ix (ev_lstL (e := D.int) (xs := [((1 : Int) + (v_law_field_t2 q most).1), most]) (es_cons (ev_var rfl) (es_cons (ev_var rfl) es_nil)) (Nat.le_of_ble_eq_true rfl)) (ev_call (es_cons (ev_var rfl) (es_cons ev_cst es_nil)) (show _ = R.ok (D.int (v_law_field_t4 q most).1) (List.set S p (penC (v_law_field_t4 q most).2)) from (r_law_draw (sub := sub) (k := k + 1) (S := S) (p := p) (q := (v_law_field_t2 q most).2) hs hp h.2.2.2.1))) (x_L h.2.2.2.2.1)) (es_cons (ev_tupT (e := (e2 D.int D.int)) (xs := []) es_nil (Nat.le_of_ble_eq_true rfl)) es_nil)) rfl]
  obtain ⟨e_, S_, hf_, j6, j7, rfl, rfl⟩ := for_fld2 (X := ⟨Rs.run tab sub (k + 2), sub⟩) (t := (.nm 2)) (b := b__law_field_b1) (P := (fun (s_ : (List (Int × Int)) × Pen) (e_ : Nv) (S_ : Store) => ∃ j6 j7 : Option D, e_ = [some (D.ref p), some (D.int most), j6, some (D.int (v_law_field_wide_3 q)), some (D.int (v_law_field_many_5 q most)), some ((eT (e2 D.int D.int)) s_.1), j7] ∧ (List.set S p (penC s_.2)) = S_)) (e := D.int) (step := (v_law_field_b8 q most)) (ok := (ok_law_field_b8 q most)) (r_law_field_b8 (sub := sub) (k := k) (S := S) (p := p) hs hp q most) (rgI 0 ((3 : Int) * most)) (([] : (List (Int × Int))), (v_law_field_t4 q most).2) [some (D.ref p), some (D.int most), none, some (D.int (v_law_field_wide_3 q)), some (D.int (v_law_field_many_5 q most)), some ((eT (e2 D.int D.int)) ([] : (List (Int × Int)))), none] (List.set S p (penC (v_law_field_t4 q most).2)) ⟨_, _, rfl, rfl⟩ h.2.2.2.2.2.2.2 (show (List.foldl (v_law_field_b8 q most) (([] : (List (Int × Int))), (v_law_field_t4 q most).2) (rgI 0 ((3 : Int) * most))) = (v_law_field_l23 q most) from rfl)
  rw [cs_for (X := ⟨Rs.run tab sub (k + 2), sub⟩) (env := [some (D.ref p), some (D.int most), none, some (D.int (v_law_field_wide_3 q)), some (D.int (v_law_field_many_5 q most)), some ((eT (e2 D.int D.int)) ([] : (List (Int × Int)))), none]) (S := (List.set S p (penC (v_law_field_t4 q most).2))) (it_rng (es_cons (ev_bop ev_cst (ev_var rfl) (o_mul h.2.2.2.2.2.1)) es_nil) (rng1 h.2.2.2.2.2.2.1)) hf_]
  exact fun_ret (ev_var rfl) (qq_leaf ((ce_T (ce_2 ce_int ce_int)) _))
theorem r_law_side {k : Nat} {S : Store} {field_here : (List (Int × Int))} {a : Int} {b : Int} {c : Int} (hs : OKS S) (h : ok_law_side field_here a b c) : run tab sub (k + 2) 20 [((eT (e2 D.int D.int)) field_here), (D.int a), (D.int b), (D.int c)] S = .ok (D.int (v_law_side field_here a b c)) S := by
  refine run_P (e := D.int) (v := v_law_side field_here a b c) (show tab[20]? = some ⟨4, 5, false, b__law_side⟩ from rfl) rfl rfl hs ?_
  show FunG (QP D.int S) (evCs _ b__law_side [some ((eT (e2 D.int D.int)) field_here), some (D.int a), some (D.int b), some (D.int c), none] S) _
  unfold ok_law_side at h
  unfold b__law_side v_law_side
  rw [cs_asg (X := ⟨Rs.run tab sub (k + 1), sub⟩) (env := [some ((eT (e2 D.int D.int)) field_here), some (D.int a), some (D.int b), some (D.int c), none]) (S := S) (i := 4) (d := (D.int (v_law_bend (gI field_here a) (gI field_here b) (gI field_here c)))) (env1 := [some ((eT (e2 D.int D.int)) field_here), some (D.int a), some (D.int b), some (D.int c), some (D.int (v_law_bend (gI field_here a) (gI field_here b) (gI field_here c)))]) (ev_call (es_cons (ev_ix (ev_var rfl) (ev_var rfl) (x_T h.1)) (es_cons (ev_ix (ev_var rfl) (ev_var rfl) (x_T h.2.1)) (es_cons (ev_ix (ev_var rfl) (ev_var rfl) (x_T h.2.2.1)) es_nil))) (r_law_bend (sub := sub) (k := k) (S := S) hs h.2.2.2)) rfl]
  exact fun_ret (ev_bop (ev_blt (es_cons (ev_cmp (ev_var rfl) ev_cst o_gt) es_nil) b_intB) (ev_blt (es_cons (ev_cmp (ev_var rfl) ev_cst o_lt) es_nil) b_intB) o_sub) (qp_leaf (ce_int _))
theorem r_law_threes_b2 {k : Nat} {S : Store} (hs : OKS S) (some_ : (List Int))  : ∀ (s3 : (List (List Int))) (x5 : Int) (env : Nv) (S_ : Store), (fun (s_ : (List (List Int))) (e_ : Nv) (S_ : Store) => ∃ j1 : Option D, e_ = [some ((eT D.int) some_), some ((eL (eT D.int)) s_), j1, none] ∧ S = S_) s3 env S_ → ok_law_threes_b2 some_ s3 x5 → ∃ env1 S1_, bindT ⟨Rs.run tab sub k, sub⟩ (.nm 2) (D.int x5) env S_ = .ok env1 S1_ ∧ NxR (fun (s_ : (List (List Int))) (e_ : Nv) (S_ : Store) => ∃ j1 : Option D, e_ = [some ((eT D.int) some_), some ((eL (eT D.int)) s_), j1, none] ∧ S = S_) (evCs ⟨Rs.run tab sub k, sub⟩ b__law_threes_b1 env1 S1_) (v_law_threes_b2 some_ s3 x5) := by
  rintro s3 x5 env S_ ⟨j1, rfl, rfl⟩ h
  unfold ok_law_threes_b2 at h
  refine ⟨[some ((eT D.int) some_), some ((eL (eT D.int)) s3), some (D.int x5), none], S, rfl, ?_⟩
  unfold b__law_threes_b1 v_law_threes_b2
  rw [cs_asg (X := ⟨Rs.run tab sub k, sub⟩) (env := [some ((eT D.int) some_), some ((eL (eT D.int)) s3), some (D.int x5), none]) (S := S) (i := 1) (d := ((eL (eT D.int)) (v_law_threes_found_9 s3 x5))) (env1 := [some ((eT D.int) some_), some ((eL (eT D.int)) (v_law_threes_found_9 s3 x5)), some (D.int x5), none]) (ev_bop (ev_var rfl) (lc_fil (e := (eT D.int)) (e' := (eT D.int)) (p := fun x6 => (decide ((x6.length : Int) < (3 : Int)))) (G := fun x6 => (x6 ++ [x5])) (z := fun x6 => (D.bl (decide ((x6.length : Int) < (3 : Int))))) (w := fun x6 => [some ((eT D.int) some_), some ((eL (eT D.int)) s3), some (D.int x5), some ((eT D.int) x6)]) (it_L (ev_var rfl)) (fun x6 hx7 => rfl) (fun x6 hx7 => (ev_cmp (ev_blt (es_cons (ev_var rfl) es_nil) b_lenT) ev_cst o_lt)) (fun x6 hx7 => t_bl) (fun x6 hx7 hb8 => (ev_bop (ev_var rfl) (ev_tupT (e := D.int) (xs := [x5]) (es_cons (ev_var rfl) es_nil) (Nat.le_of_ble_eq_true rfl)) (o_addT ((h.1 x6 hx7) hb8)))) h.2.1) (o_addL h.2.2)) rfl]
  exact nx_nil ⟨_, rfl, rfl⟩
theorem r_law_threes {k : Nat} {S : Store} {some_ : (List Int)} (hs : OKS S) (h : ok_law_threes some_) : run tab sub (k + 1) 21 [((eT D.int) some_)] S = .ok ((eL (eT D.int)) (v_law_threes some_)) S := by
  refine run_P (e := (eL (eT D.int))) (v := v_law_threes some_) (show tab[21]? = some ⟨1, 4, false, b__law_threes⟩ from rfl) rfl rfl hs ?_
  show FunG (QP (eL (eT D.int)) S) (evCs _ b__law_threes [some ((eT D.int) some_), none, none, none] S) _
  unfold ok_law_threes at h
  unfold b__law_threes v_law_threes
  rw [cs_asg (X := ⟨Rs.run tab sub k, sub⟩) (env := [some ((eT D.int) some_), none, none, none]) (S := S) (i := 1) (d := ((eL (eT D.int)) [([] : (List Int))])) (env1 := [some ((eT D.int) some_), some ((eL (eT D.int)) [([] : (List Int))]), none, none]) (ev_lstL (e := (eT D.int)) (xs := [([] : (List Int))]) (es_cons (ev_tupT (e := D.int) (xs := []) es_nil (Nat.le_of_ble_eq_true rfl)) es_nil) (Nat.le_of_ble_eq_true rfl)) rfl]
  obtain ⟨e_, S_, hf_, j1, rfl, rfl⟩ := for_fld2 (X := ⟨Rs.run tab sub k, sub⟩) (t := (.nm 2)) (b := b__law_threes_b1) (P := (fun (s_ : (List (List Int))) (e_ : Nv) (S_ : Store) => ∃ j1 : Option D, e_ = [some ((eT D.int) some_), some ((eL (eT D.int)) s_), j1, none] ∧ S = S_)) (e := D.int) (step := (v_law_threes_b2 some_)) (ok := (ok_law_threes_b2 some_)) (r_law_threes_b2 (sub := sub) (k := k) (S := S) hs some_) some_ [([] : (List Int))] [some ((eT D.int) some_), some ((eL (eT D.int)) [([] : (List Int))]), none, none] S ⟨_, rfl, rfl⟩ h.1 (show (List.foldl (v_law_threes_b2 some_) [([] : (List Int))] some_) = (v_law_threes_l11 some_) from rfl)
  rw [cs_for (X := ⟨Rs.run tab sub k, sub⟩) (env := [some ((eT D.int) some_), some ((eL (eT D.int)) [([] : (List Int))]), none, none]) (S := S) (it_T (ev_var rfl)) hf_]
  exact fun_ret (ev_blt (es_cons (lc_fid (e := (eT D.int)) (p := fun x12 => (eqB (x12.length : Int) (3 : Int))) (z := fun x12 => (D.bl (eqB (x12.length : Int) (3 : Int)))) (w := fun x12 => [some ((eT D.int) some_), some ((eL (eT D.int)) (v_law_threes_l11 some_)), j1, some ((eT D.int) x12)]) (it_L (ev_var rfl)) (fun x12 hx13 => rfl) (fun x12 hx13 => (ev_cmp (ev_blt (es_cons (ev_var rfl) es_nil) b_lenT) ev_cst (o_eq ge_int))) (fun x12 hx13 => t_bl) (fun x12 hx13 => (ev_var rfl)) h.2.1) es_nil) (b_sortedT h.2.2)) (qp_leaf ((ce_L (ce_T ce_int)) _))
theorem r_law_threesA_b2 {k : Nat} {S : Store} (hs : OKS S) (some_ : (List Int))  : ∀ (s3 : (List (List Int))) (x5 : Int) (env : Nv) (S_ : Store), (fun (s_ : (List (List Int))) (e_ : Nv) (S_ : Store) => ∃ j1 : Option D, e_ = [some ((eL D.int) some_), some ((eL (eT D.int)) s_), j1, none] ∧ S = S_) s3 env S_ → ok_law_threesA_b2 some_ s3 x5 → ∃ env1 S1_, bindT ⟨Rs.run tab sub k, sub⟩ (.nm 2) (D.int x5) env S_ = .ok env1 S1_ ∧ NxR (fun (s_ : (List (List Int))) (e_ : Nv) (S_ : Store) => ∃ j1 : Option D, e_ = [some ((eL D.int) some_), some ((eL (eT D.int)) s_), j1, none] ∧ S = S_) (evCs ⟨Rs.run tab sub k, sub⟩ b__law_threes_b1 env1 S1_) (v_law_threesA_b2 some_ s3 x5) := by
  rintro s3 x5 env S_ ⟨j1, rfl, rfl⟩ h
  unfold ok_law_threesA_b2 at h
  refine ⟨[some ((eL D.int) some_), some ((eL (eT D.int)) s3), some (D.int x5), none], S, rfl, ?_⟩
  unfold b__law_threes_b1 v_law_threesA_b2
  rw [cs_asg (X := ⟨Rs.run tab sub k, sub⟩) (env := [some ((eL D.int) some_), some ((eL (eT D.int)) s3), some (D.int x5), none]) (S := S) (i := 1) (d := ((eL (eT D.int)) (v_law_threesA_found_9 s3 x5))) (env1 := [some ((eL D.int) some_), some ((eL (eT D.int)) (v_law_threesA_found_9 s3 x5)), some (D.int x5), none]) (ev_bop (ev_var rfl) (lc_fil (e := (eT D.int)) (e' := (eT D.int)) (p := fun x6 => (decide ((x6.length : Int) < (3 : Int)))) (G := fun x6 => (x6 ++ [x5])) (z := fun x6 => (D.bl (decide ((x6.length : Int) < (3 : Int))))) (w := fun x6 => [some ((eL D.int) some_), some ((eL (eT D.int)) s3), some (D.int x5), some ((eT D.int) x6)]) (it_L (ev_var rfl)) (fun x6 hx7 => rfl) (fun x6 hx7 => (ev_cmp (ev_blt (es_cons (ev_var rfl) es_nil) b_lenT) ev_cst o_lt)) (fun x6 hx7 => t_bl) (fun x6 hx7 hb8 => (ev_bop (ev_var rfl) (ev_tupT (e := D.int) (xs := [x5]) (es_cons (ev_var rfl) es_nil) (Nat.le_of_ble_eq_true rfl)) (o_addT ((h.1 x6 hx7) hb8)))) h.2.1) (o_addL h.2.2)) rfl]
  exact nx_nil ⟨_, rfl, rfl⟩
theorem r_law_threesA {k : Nat} {S : Store} {some_ : (List Int)} (hs : OKS S) (h : ok_law_threesA some_) : run tab sub (k + 1) 21 [((eL D.int) some_)] S = .ok ((eL (eT D.int)) (v_law_threesA some_)) S := by
  refine run_P (e := (eL (eT D.int))) (v := v_law_threesA some_) (show tab[21]? = some ⟨1, 4, false, b__law_threes⟩ from rfl) rfl rfl hs ?_
  show FunG (QP (eL (eT D.int)) S) (evCs _ b__law_threes [some ((eL D.int) some_), none, none, none] S) _
  unfold ok_law_threesA at h
  unfold b__law_threes v_law_threesA
  rw [cs_asg (X := ⟨Rs.run tab sub k, sub⟩) (env := [some ((eL D.int) some_), none, none, none]) (S := S) (i := 1) (d := ((eL (eT D.int)) [([] : (List Int))])) (env1 := [some ((eL D.int) some_), some ((eL (eT D.int)) [([] : (List Int))]), none, none]) (ev_lstL (e := (eT D.int)) (xs := [([] : (List Int))]) (es_cons (ev_tupT (e := D.int) (xs := []) es_nil (Nat.le_of_ble_eq_true rfl)) es_nil) (Nat.le_of_ble_eq_true rfl)) rfl]
  obtain ⟨e_, S_, hf_, j1, rfl, rfl⟩ := for_fld2 (X := ⟨Rs.run tab sub k, sub⟩) (t := (.nm 2)) (b := b__law_threes_b1) (P := (fun (s_ : (List (List Int))) (e_ : Nv) (S_ : Store) => ∃ j1 : Option D, e_ = [some ((eL D.int) some_), some ((eL (eT D.int)) s_), j1, none] ∧ S = S_)) (e := D.int) (step := (v_law_threesA_b2 some_)) (ok := (ok_law_threesA_b2 some_)) (r_law_threesA_b2 (sub := sub) (k := k) (S := S) hs some_) some_ [([] : (List Int))] [some ((eL D.int) some_), some ((eL (eT D.int)) [([] : (List Int))]), none, none] S ⟨_, rfl, rfl⟩ h.1 (show (List.foldl (v_law_threesA_b2 some_) [([] : (List Int))] some_) = (v_law_threesA_l11 some_) from rfl)
  rw [cs_for (X := ⟨Rs.run tab sub k, sub⟩) (env := [some ((eL D.int) some_), some ((eL (eT D.int)) [([] : (List Int))]), none, none]) (S := S) (it_L (ev_var rfl)) hf_]
  exact fun_ret (ev_blt (es_cons (lc_fid (e := (eT D.int)) (p := fun x12 => (eqB (x12.length : Int) (3 : Int))) (z := fun x12 => (D.bl (eqB (x12.length : Int) (3 : Int)))) (w := fun x12 => [some ((eL D.int) some_), some ((eL (eT D.int)) (v_law_threesA_l11 some_)), j1, some ((eT D.int) x12)]) (it_L (ev_var rfl)) (fun x12 hx13 => rfl) (fun x12 hx13 => (ev_cmp (ev_blt (es_cons (ev_var rfl) es_nil) b_lenT) ev_cst (o_eq ge_int))) (fun x12 hx13 => t_bl) (fun x12 hx13 => (ev_var rfl)) h.2.1) es_nil) (b_sortedT h.2.2)) (qp_leaf ((ce_L (ce_T ce_int)) _))
theorem r_law_due_b5 {k : Nat} {S : Store} (hs : OKS S) (field_here : (List (Int × Int))) (its : (List (Int × Int)))  : ∀ (s6 : Unit) (x8 : (List Int)) (env : Nv) (S_ : Store), (fun (s_ : Unit) (e_ : Nv) (S_ : Store) => ∃ j1 j2 j3 j4 : Option D, e_ = [some ((eT (e2 D.int D.int)) field_here), some ((eT (e2 D.int D.int)) its), j1, j2, j3, j4] ∧ S = S_) s6 env S_ → ok_law_due_b5 field_here its s6 x8 → ∃ env1 S1_, bindT ⟨Rs.run tab sub (k + 2), sub⟩ (.nm 2) ((eT D.int) x8) env S_ = .ok env1 S1_ ∧ Blk (fun (s_ : Unit) (e_ : Nv) (S_ : Store) => ∃ j1 j2 j3 j4 : Option D, e_ = [some ((eT (e2 D.int D.int)) field_here), some ((eT (e2 D.int D.int)) its), j1, j2, j3, j4] ∧ S = S_) (QP eD S) (evCs ⟨Rs.run tab sub (k + 2), sub⟩ b__law_due_b1 env1 S1_) (v_law_due_b5 field_here its s6 x8) := by
  rintro s6 x8 env S_ ⟨j1, j2, j3, j4, rfl, rfl⟩ h
  unfold ok_law_due_b5 at h
  refine ⟨[some ((eT (e2 D.int D.int)) field_here), some ((eT (e2 D.int D.int)) its), some ((eT D.int) x8), j2, j3, j4], S, rfl, ?_⟩
  unfold b__law_due_b1 v_law_due_b5
  rw [cs_asgT (X := ⟨Rs.run tab sub (k + 2), sub⟩) (env := [some ((eT (e2 D.int D.int)) field_here), some ((eT (e2 D.int D.int)) its), some ((eT D.int) x8), j2, j3, j4]) (S := S) (t := (.tup (.cons (.nm 3) (.cons (.nm 4) (.cons (.nm 5) .nil))))) (d := ((eT D.int) x8)) (env1 := [some ((eT (e2 D.int D.int)) field_here), some ((eT (e2 D.int D.int)) its), some ((eT D.int) x8), some (D.int (gI x8 0)), some (D.int (gI x8 1)), some (D.int (gI x8 2))]) (ev_var rfl) (by rw [(eT_3 h.1)]; rfl)]
  refine cs_if (x := (Lp.rt (D.tup [(D.str (Str.ofString "apart")), (D.int (gI x8 0)), (D.int (gI x8 1)), (D.int (gI x8 2))]))) (y := (Lp.nx ())) (ev_cmp (ev_call (es_cons (ev_var rfl) (es_cons (ev_var rfl) (es_cons (ev_var rfl) (es_cons (ev_var rfl) es_nil)))) (r_law_side (sub := sub) (k := k) (S := S) hs h.2.1)) (ev_call (es_cons (ev_var rfl) (es_cons (ev_var rfl) (es_cons (ev_var rfl) (es_cons (ev_var rfl) es_nil)))) (r_law_side (sub := sub) (k := k) (S := S) hs h.2.2.1)) (o_ne ge_int)) t_bl (fun hb9 => ?_) (fun hb9 => ?_)
  · dsimp only [capp]
    exact blk_ret (ev_tup (es_cons ev_cst (es_cons (ev_var rfl) (es_cons (ev_var rfl) (es_cons (ev_var rfl) es_nil)))) (Nat.le_of_ble_eq_true rfl)) (qp_leaf (h.2.2.2 hb9))
  · dsimp only [capp]
    exact blk_nx ⟨_, _, _, _, rfl, rfl⟩
theorem r_law_due {k : Nat} {S : Store} {field_here : (List (Int × Int))} {its : (List (Int × Int))} (hs : OKS S) (h : ok_law_due field_here its) : run tab sub (k + 3) 22 [((eT (e2 D.int D.int)) field_here), ((eT (e2 D.int D.int)) its)] S = .ok (v_law_due field_here its) S := by
  refine run_P (e := eD) (v := v_law_due field_here its) (show tab[22]? = some ⟨2, 6, false, b__law_due⟩ from rfl) rfl rfl hs ?_
  show FunG (QP eD S) (evCs _ b__law_due [some ((eT (e2 D.int D.int)) field_here), some ((eT (e2 D.int D.int)) its), none, none, none, none] S) _
  unfold ok_law_due at h
  unfold b__law_due v_law_due
  have hl_ := for_rel (X := ⟨Rs.run tab sub (k + 2), sub⟩) (t := (.nm 2)) (b := b__law_due_b1) (P := (fun (s_ : Unit) (e_ : Nv) (S_ : Store) => ∃ j1 j2 j3 j4 : Option D, e_ = [some ((eT (e2 D.int D.int)) field_here), some ((eT (e2 D.int D.int)) its), j1, j2, j3, j4] ∧ S = S_)) (Q := (QP eD S)) (e := (eT D.int)) (step := (v_law_due_b5 field_here its)) (ok := (ok_law_due_b5 field_here its)) (r_law_due_b5 (sub := sub) (k := k) (S := S) hs field_here its) (v_law_threesA (rgI 0 (field_here.length : Int))) () [some ((eT (e2 D.int D.int)) field_here), some ((eT (e2 D.int D.int)) its), none, none, none, none] S ⟨_, _, _, _, rfl, rfl⟩ h.2.2.1
  cases hv_s11 : (forV (v_law_due_b5 field_here its) (v_law_threesA (rgI 0 (field_here.length : Int))) ()) with
  | nx s11 =>
    rw [hv_s11] at hl_
    obtain ⟨e_, S_, hf_, j1, j2, j3, j4, rfl, rfl⟩ := hl_
    rw [cs_for (X := ⟨Rs.run tab sub (k + 2), sub⟩) (env := [some ((eT (e2 D.int D.int)) field_here), some ((eT (e2 D.int D.int)) its), none, none, none, none]) (S := S) (it_L (ev_call (es_cons (ev_rngL (es_cons (ev_blt (es_cons (ev_var rfl) es_nil) b_lenT) es_nil) (rng1 h.1)) es_nil) (r_law_threesA (sub := sub) (k := k + 1) (S := S) hs h.2.1))) hf_]
    dsimp only [Lp.fin]
    exact fun_ret (ev_tup (es_cons ev_cst es_nil) (Nat.le_of_ble_eq_true rfl)) (qp_leaf (h.2.2.2 s11 hv_s11))
  | bk s_ =>
    rw [hv_s11] at hl_
    exact hl_.elim
  | rt r_ =>
    rw [hv_s11] at hl_
    obtain ⟨d_, S_, hf_, hq_⟩ := hl_
    exact ⟨d_, S_, cs_for_rt (it_L (ev_call (es_cons (ev_rngL (es_cons (ev_blt (es_cons (ev_var rfl) es_nil) b_lenT) es_nil) (rng1 h.1)) es_nil) (r_law_threesA (sub := sub) (k := k + 1) (S := S) hs h.2.1))) hf_, hq_⟩
theorem r_law_others_b18 {k : Nat} {S : Store} {p : Nat} (hp : p < S.length) {k_found : Nat} (hk_found : S.length ≤ k_found) (q : Pen) (field_here : (List (Int × Int)))  : ∀ (s19 : (List (List (Int × Int))) × Pen) (x21 : (Int × Int)) (env : Nv) (S_ : Store), (fun (s_ : (List (List (Int × Int))) × Pen) (e_ : Nv) (S_ : Store) => ∃ (j17 : Option D) (B_ : Store), e_ = [some (D.ref p), some ((eT (e2 D.int D.int)) field_here), some (D.int (v_law_others_t14 q field_here).1), j17, none, some (D.ref k_found), some (D.int (maxV (field_here.map fun x3 => (maxV [x3.1, x3.2])))), some (D.int (gI field_here (v_law_others_t14 q field_here).1).1), some (D.int (gI field_here (v_law_others_t14 q field_here).1).2), none] ∧ (OKS B_ ∧ Fr S B_ ∧ B_[k_found]? = some (Cell.lst (s_.1.map (eT (e2 D.int D.int)))) ∧ True) ∧ (List.set B_ p (penC s_.2)) = S_) s19 env S_ → ok_law_others_b18 q field_here s19 x21 → ∃ env1 S1_, bindT ⟨Rs.run tab sub (k + 3), sub⟩ (.nm 3) ((e2 D.int D.int) x21) env S_ = .ok env1 S1_ ∧ NxR (fun (s_ : (List (List (Int × Int))) × Pen) (e_ : Nv) (S_ : Store) => ∃ (j17 : Option D) (B_ : Store), e_ = [some (D.ref p), some ((eT (e2 D.int D.int)) field_here), some (D.int (v_law_others_t14 q field_here).1), j17, none, some (D.ref k_found), some (D.int (maxV (field_here.map fun x3 => (maxV [x3.1, x3.2])))), some (D.int (gI field_here (v_law_others_t14 q field_here).1).1), some (D.int (gI field_here (v_law_others_t14 q field_here).1).2), none] ∧ (OKS B_ ∧ Fr S B_ ∧ B_[k_found]? = some (Cell.lst (s_.1.map (eT (e2 D.int D.int)))) ∧ True) ∧ (List.set B_ p (penC s_.2)) = S_) (evCs ⟨Rs.run tab sub (k + 3), sub⟩ b__law_others_b1 env1 S1_) (v_law_others_b18 q field_here s19 x21) := by
  rintro s19 x21 env S_ ⟨j17, Bz20, rfl, ⟨obz20, fbz20, g_found_z20, _⟩, rfl⟩ h
  unfold ok_law_others_b18 at h
  refine ⟨[some (D.ref p), some ((eT (e2 D.int D.int)) field_here), some (D.int (v_law_others_t14 q field_here).1), some ((e2 D.int D.int) x21), none, some (D.ref k_found), some (D.int (maxV (field_here.map fun x3 => (maxV [x3.1, x3.2])))), some (D.int (gI field_here (v_law_others_t14 q field_here).1).1), some (D.int (gI field_here (v_law_others_t14 q field_here).1).2), none], (List.set Bz20 p (penC s19.2)), rfl, ?_⟩
  unfold b__law_others_b1 v_law_others_b18
  refine cs_if (x := ((v_law_others_found_25 q field_here s19 x21), s19.2)) (y := (s19.1, s19.2)) (ev_and (ev_cmp ev_cst (ev_blt (es_cons (ev_cast (ev_var rfl) (show ((e2 D.int D.int) x21) = (eT D.int) [x21.1, x21.2] from rfl)) es_nil) (b_minT (fun z => nomatch z))) o_le) (fun hb22 => (ev_and (ev_cmp (ev_blt (es_cons (ev_cast (ev_var rfl) (show ((e2 D.int D.int) x21) = (eT D.int) [x21.1, x21.2] from rfl)) es_nil) (b_maxT (fun z => nomatch z))) ev_cst o_le) (fun hb23 => (ev_call (es_cons (ev_bop (ev_sl (ev_var rfl) pt_nil (pp_one (ev_var rfl)) s_T) (ev_sl (ev_var rfl) (pp_one (ev_bop (ev_var rfl) ev_cst o_add)) pt_nil s_T) (o_addT ((h.1 hb22) hb23).1)) (es_cons (ev_var rfl) es_nil)) (r_law_is_free (sub := sub) (k := k + 1) (S := (List.set Bz20 p (penC s19.2))) (oks_pen obz20) ((h.1 hb22) hb23).2)))))) t_bl (fun hb24 => ?_) (fun hb24 => ?_)
  · dsimp only [capp]
    rw [cs_expr (X := ⟨Rs.run tab sub (k + 3), sub⟩) (env := [some (D.ref p), some ((eT (e2 D.int D.int)) field_here), some (D.int (v_law_others_t14 q field_here).1), some ((e2 D.int D.int) x21), none, some (D.ref k_found), some (D.int (maxV (field_here.map fun x3 => (maxV [x3.1, x3.2])))), some (D.int (gI field_here (v_law_others_t14 q field_here).1).1), some (D.int (gI field_here (v_law_others_t14 q field_here).1).2), none]) (S := (List.set Bz20 p (penC s19.2))) (S1 := (List.set (List.set Bz20 p (penC s19.2)) k_found (Cell.lst ((v_law_others_found_25 q field_here s19 x21).map (eT (e2 D.int D.int)))))) (ev_appM (e := (eT (e2 D.int D.int))) (xs := s19.1) (ys := s19.1) (v := (((cut field_here none (some (v_law_others_t14 q field_here).1)) ++ [x21]) ++ (cut field_here (some ((v_law_others_t14 q field_here).1 + (1 : Int))) none))) (ev_var rfl) (get_pen g_found_z20 (ne_pen hp hk_found)) (ev_bop (ev_bop (ev_sl (ev_var rfl) pt_nil (pp_one (ev_var rfl)) s_T) (ev_tupT (e := (e2 D.int D.int)) (xs := [x21]) (es_cons (ev_var rfl) es_nil) (Nat.le_of_ble_eq_true rfl)) (o_addT (h.2 hb24).1)) (ev_sl (ev_var rfl) (pp_one (ev_bop (ev_var rfl) ev_cst o_add)) pt_nil s_T) (o_addT (h.2 hb24).2.1)) (get_pen g_found_z20 (ne_pen hp hk_found)) (h.2 hb24).2.2), set_swap (ne_pen hp hk_found)]
    exact nx_nil ⟨_, (List.set Bz20 k_found (Cell.lst ((v_law_others_found_25 q field_here s19 x21).map (eT (e2 D.int D.int))))), rfl, ⟨(oks_setL obz20 (cell_ce (ce_T (ce_2 ce_int ce_int)))), (fr_set fbz20 hk_found), (get_set (c := (Cell.lst ((v_law_others_found_25 q field_here s19 x21).map (eT (e2 D.int D.int))))) g_found_z20), trivial⟩, rfl⟩
  · dsimp only [capp]
    exact nx_nil ⟨_, Bz20, rfl, ⟨obz20, fbz20, g_found_z20, trivial⟩, rfl⟩
theorem r_law_others {k : Nat} {S : Store} {p : Nat} {q : Pen} {field_here : (List (Int × Int))} (hs : OKS S) (hp : p < S.length) (h : ok_law_others q field_here) : run tab sub (k + 4) 23 [D.ref p, ((eT (e2 D.int D.int)) field_here)] (S.set p (penC q)) = .ok ((eL (eT (e2 D.int D.int))) (v_law_others q field_here).1) (S.set p (penC (v_law_others q field_here).2)) := by
  refine run_Q (e := (eL (eT (e2 D.int D.int)))) (v := v_law_others q field_here) (show tab[23]? = some ⟨2, 10, false, b__law_others⟩ from rfl) rfl rfl hs ?_
  show FunG (QQ (eL (eT (e2 D.int D.int))) S p) (evCs _ b__law_others [some (D.ref p), some ((eT (e2 D.int D.int)) field_here), none, none, none, none, none, none, none, none] (S.set p (penC q))) _
  unfold ok_law_others at h
  unfold b__law_others v_law_others
  rw [cs_par (X := ⟨Rs.run tab sub (k + 3), sub⟩) (env := [some (D.ref p), some ((eT (e2 D.int D.int)) field_here), none, none, none, none, none, none, none, none]) (S := (List.set S p (penC q))) (ts := [5, 6]) (env1 := [some (D.ref p), some ((eT (e2 D.int D.int)) field_here), none, none, none, some (D.ref S.length), some (D.int (maxV (field_here.map fun x3 => (maxV [x3.1, x3.2])))), none, none, none]) (es_cons (ev_mutP (e := (eT (e2 D.int D.int))) (xs := [field_here, (field_here.map fun x1 => (((40 : Int) - x1.1), x1.2))]) (ev_lstL (e := (eT (e2 D.int D.int))) (xs := [field_here, (field_here.map fun x1 => (((40 : Int) - x1.1), x1.2))]) (es_cons (ev_var rfl) (es_cons (ev_blt (es_cons (lc_map (e := (e2 D.int D.int)) (e' := (e2 D.int D.int)) (G := fun x1 => (((40 : Int) - x1.1), x1.2)) (w := fun x1 => [some (D.ref p), some ((eT (e2 D.int D.int)) field_here), none, none, none, none, none, some (D.int x1.1), some (D.int x1.2), none]) (it_T (ev_var rfl)) (fun x1 hx2 => rfl) (fun x1 hx2 => (ev_tup2 (a := D.int) (b := D.int) (x := ((40 : Int) - x1.1)) (y := x1.2) (es_cons (ev_bop ev_cst (ev_var rfl) o_sub) (es_cons (ev_var rfl) es_nil)))) h.1) es_nil) b_tupleL) es_nil)) (Nat.le_of_ble_eq_true rfl)) (fr_lt fr_refl hp)) (es_cons (ev_blt (es_cons (lc_map (e := (e2 D.int D.int)) (e' := D.int) (G := fun x3 => (maxV [x3.1, x3.2])) (w := fun x3 => [some (D.ref p), some ((eT (e2 D.int D.int)) field_here), none, none, none, none, none, none, none, some ((e2 D.int D.int) x3)]) (it_T (ev_var rfl)) (fun x3 hx4 => rfl) (fun x3 hx4 => (ev_blt (es_cons (ev_cast (ev_var rfl) (show ((e2 D.int D.int) x3) = (eT D.int) [x3.1, x3.2] from rfl)) es_nil) (b_maxT (fun z => nomatch z)))) h.2.1) es_nil) (b_maxL h.2.2.1)) es_nil)) rfl]
  obtain ⟨e_, S_, hj_, Bz6, rfl, ⟨obz6, fbz6, g_found_z6, _⟩, rfl⟩ := cs_join2 (X := ⟨Rs.run tab sub (k + 3), sub⟩) (env := [some (D.ref p), some ((eT (e2 D.int D.int)) field_here), none, none, none, some (D.ref S.length), some (D.int (maxV (field_here.map fun x3 => (maxV [x3.1, x3.2])))), none, none, none]) (S := (List.set (S ++ [(Cell.lst ([field_here, (field_here.map fun x1 => (((40 : Int) - x1.1), x1.2))].map (eT (e2 D.int D.int))))]) p (penC q))) (v := (v_law_others_j13 q field_here)) (c := (.cmp .le (.bop .mul (.cst (.int 2)) (.var 6)) (.cst (.int 40)))) (a := (.cons (.expr (.app (.var 5) (.blt .tuple (.cons (.lc [7, 8] (.tup (.cons (.bop .mul (.cst (.int 2)) (.var 7)) (.cons (.bop .mul (.cst (.int 2)) (.var 8)) .nil))) (.tup (.cons (.nm 7) (.cons (.nm 8) .nil))) (.of (.var 1)) .nil .nil) .nil)))) (.cons (.expr (.app (.var 5) (.blt .tuple (.cons (.lc [7, 8] (.tup (.cons (.var 7) (.cons (.bop .add (.var 7) (.var 8)) .nil))) (.tup (.cons (.nm 7) (.cons (.nm 8) .nil))) (.of (.var 1)) .nil .nil) .nil)))) .nil))) (b := .nil) (P := (fun (s_ : (List (List (Int × Int))) × Pen) (e_ : Nv) (S_ : Store) => ∃ (B_ : Store), e_ = [some (D.ref p), some ((eT (e2 D.int D.int)) field_here), none, none, none, some (D.ref S.length), some (D.int (maxV (field_here.map fun x3 => (maxV [x3.1, x3.2])))), none, none, none] ∧ (OKS B_ ∧ Fr S B_ ∧ B_[S.length]? = some (Cell.lst (s_.1.map (eT (e2 D.int D.int)))) ∧ True) ∧ (List.set B_ p (penC s_.2)) = S_)) (x := ((v_law_others_found_12 field_here), q)) (y := ([field_here, (field_here.map fun x1 => (((40 : Int) - x1.1), x1.2))], q)) (ev_cmp (ev_bop ev_cst (ev_var rfl) (o_mul h.2.2.2.1)) ev_cst o_le) t_bl (fun hb5 => by
      rw [cs_expr (X := ⟨Rs.run tab sub (k + 3), sub⟩) (env := [some (D.ref p), some ((eT (e2 D.int D.int)) field_here), none, none, none, some (D.ref S.length), some (D.int (maxV (field_here.map fun x3 => (maxV [x3.1, x3.2])))), none, none, none]) (S := (List.set (S ++ [(Cell.lst ([field_here, (field_here.map fun x1 => (((40 : Int) - x1.1), x1.2))].map (eT (e2 D.int D.int))))]) p (penC q))) (S1 := (List.set (List.set (S ++ [(Cell.lst ([field_here, (field_here.map fun x1 => (((40 : Int) - x1.1), x1.2))].map (eT (e2 D.int D.int))))]) p (penC q)) S.length (Cell.lst ((v_law_others_found_9 field_here).map (eT (e2 D.int D.int)))))) (ev_appM (e := (eT (e2 D.int D.int))) (xs := [field_here, (field_here.map fun x1 => (((40 : Int) - x1.1), x1.2))]) (ys := [field_here, (field_here.map fun x1 => (((40 : Int) - x1.1), x1.2))]) (v := (field_here.map fun x7 => (((2 : Int) * x7.1), ((2 : Int) * x7.2)))) (ev_var rfl) (get_pen (get_new (B := S) (c := (Cell.lst ([field_here, (field_here.map fun x1 => (((40 : Int) - x1.1), x1.2))].map (eT (e2 D.int D.int)))))) (ne_pen hp (fr_le fr_refl))) (ev_blt (es_cons (lc_map (e := (e2 D.int D.int)) (e' := (e2 D.int D.int)) (G := fun x7 => (((2 : Int) * x7.1), ((2 : Int) * x7.2))) (w := fun x7 => [some (D.ref p), some ((eT (e2 D.int D.int)) field_here), none, none, none, some (D.ref S.length), some (D.int (maxV (field_here.map fun x3 => (maxV [x3.1, x3.2])))), some (D.int x7.1), some (D.int x7.2), none]) (it_T (ev_var rfl)) (fun x7 hx8 => rfl) (fun x7 hx8 => (ev_tup2 (a := D.int) (b := D.int) (x := ((2 : Int) * x7.1)) (y := ((2 : Int) * x7.2)) (es_cons (ev_bop ev_cst (ev_var rfl) (o_mul ((h.2.2.2.2.1 hb5).1 x7 hx8).1)) (es_cons (ev_bop ev_cst (ev_var rfl) (o_mul ((h.2.2.2.2.1 hb5).1 x7 hx8).2)) es_nil)))) (h.2.2.2.2.1 hb5).2.1) es_nil) b_tupleL) (get_pen (get_new (B := S) (c := (Cell.lst ([field_here, (field_here.map fun x1 => (((40 : Int) - x1.1), x1.2))].map (eT (e2 D.int D.int)))))) (ne_pen hp (fr_le fr_refl))) (h.2.2.2.2.1 hb5).2.2.1), set_swap (ne_pen hp (fr_le fr_refl))]
      rw [cs_expr (X := ⟨Rs.run tab sub (k + 3), sub⟩) (env := [some (D.ref p), some ((eT (e2 D.int D.int)) field_here), none, none, none, some (D.ref S.length), some (D.int (maxV (field_here.map fun x3 => (maxV [x3.1, x3.2])))), none, none, none]) (S := (List.set (List.set (S ++ [(Cell.lst ([field_here, (field_here.map fun x1 => (((40 : Int) - x1.1), x1.2))].map (eT (e2 D.int D.int))))]) S.length (Cell.lst ((v_law_others_found_9 field_here).map (eT (e2 D.int D.int))))) p (penC q))) (S1 := (List.set (List.set (List.set (S ++ [(Cell.lst ([field_here, (field_here.map fun x1 => (((40 : Int) - x1.1), x1.2))].map (eT (e2 D.int D.int))))]) S.length (Cell.lst ((v_law_others_found_9 field_here).map (eT (e2 D.int D.int))))) p (penC q)) S.length (Cell.lst ((v_law_others_found_12 field_here).map (eT (e2 D.int D.int)))))) (ev_appM (e := (eT (e2 D.int D.int))) (xs := (v_law_others_found_9 field_here)) (ys := (v_law_others_found_9 field_here)) (v := (field_here.map fun x10 => (x10.1, (x10.1 + x10.2)))) (ev_var rfl) (get_pen (get_set (c := (Cell.lst ((v_law_others_found_9 field_here).map (eT (e2 D.int D.int))))) (get_new (B := S) (c := (Cell.lst ([field_here, (field_here.map fun x1 => (((40 : Int) - x1.1), x1.2))].map (eT (e2 D.int D.int))))))) (ne_pen hp (fr_le fr_refl))) (ev_blt (es_cons (lc_map (e := (e2 D.int D.int)) (e' := (e2 D.int D.int)) (G := fun x10 => (x10.1, (x10.1 + x10.2))) (w := fun x10 => [some (D.ref p), some ((eT (e2 D.int D.int)) field_here), none, none, none, some (D.ref S.length), some (D.int (maxV (field_here.map fun x3 => (maxV [x3.1, x3.2])))), some (D.int x10.1), some (D.int x10.2), none]) (it_T (ev_var rfl)) (fun x10 hx11 => rfl) (fun x10 hx11 => (ev_tup2 (a := D.int) (b := D.int) (x := x10.1) (y := (x10.1 + x10.2)) (es_cons (ev_var rfl) (es_cons (ev_bop (ev_var rfl) (ev_var rfl) o_add) es_nil)))) (h.2.2.2.2.1 hb5).2.2.2.1) es_nil) b_tupleL) (get_pen (get_set (c := (Cell.lst ((v_law_others_found_9 field_here).map (eT (e2 D.int D.int))))) (get_new (B := S) (c := (Cell.lst ([field_here, (field_here.map fun x1 => (((40 : Int) - x1.1), x1.2))].map (eT (e2 D.int D.int))))))) (ne_pen hp (fr_le fr_refl))) (h.2.2.2.2.1 hb5).2.2.2.2), set_swap (ne_pen hp (fr_le fr_refl))]
      exact nx_nil ⟨(List.set (List.set (S ++ [(Cell.lst ([field_here, (field_here.map fun x1 => (((40 : Int) - x1.1), x1.2))].map (eT (e2 D.int D.int))))]) S.length (Cell.lst ((v_law_others_found_9 field_here).map (eT (e2 D.int D.int))))) S.length (Cell.lst ((v_law_others_found_12 field_here).map (eT (e2 D.int D.int))))), rfl, ⟨(oks_setL (oks_setL (oks_pushL hs (cell_ce (ce_T (ce_2 ce_int ce_int)))) (cell_ce (ce_T (ce_2 ce_int ce_int)))) (cell_ce (ce_T (ce_2 ce_int ce_int)))), (fr_set (fr_set (fr_push fr_refl) (fr_le fr_refl)) (fr_le fr_refl)), (get_set (c := (Cell.lst ((v_law_others_found_12 field_here).map (eT (e2 D.int D.int))))) (get_set (c := (Cell.lst ((v_law_others_found_9 field_here).map (eT (e2 D.int D.int))))) (get_new (B := S) (c := (Cell.lst ([field_here, (field_here.map fun x1 => (((40 : Int) - x1.1), x1.2))].map (eT (e2 D.int D.int)))))))), trivial⟩, rfl⟩) (fun hb5 => by
      exact nx_nil ⟨(S ++ [(Cell.lst ([field_here, (field_here.map fun x1 => (((40 : Int) - x1.1), x1.2))].map (eT (e2 D.int D.int))))]), rfl, ⟨(oks_pushL hs (cell_ce (ce_T (ce_2 ce_int ce_int)))), (fr_push fr_refl), (get_new (B := S) (c := (Cell.lst ([field_here, (field_here.map fun x1 => (((40 : Int) - x1.1), x1.2))].map (eT (e2 D.int D.int)))))), trivial⟩, rfl⟩) rfl
  rw [cs_step hj_]
  rw [cs_asg (X := ⟨Rs.run tab sub (k + 3), sub⟩) (env := [some (D.ref p), some ((eT (e2 D.int D.int)) field_here), none, none, none, some (D.ref S.length), some (D.int (maxV (field_here.map fun x3 => (maxV [x3.1, x3.2])))), none, none, none]) (S := (List.set Bz6 p (penC (v_law_others_j13 q field_here).2))) (i := 2) (d := (D.int (v_law_others_t14 q field_here).1)) (env1 := [some (D.ref p), some ((eT (e2 D.int D.int)) field_here), some (D.int (v_law_others_t14 q field_here).1), none, none, some (D.ref S.length), some (D.int (maxV (field_here.map fun x3 => (maxV [x3.1, x3.2])))), none, none, none]) (ev_call (es_cons (ev_var rfl) (es_cons (ev_blt (es_cons (ev_var rfl) es_nil) b_lenT) es_nil)) (show _ = R.ok (D.int (v_law_others_t14 q field_here).1) (List.set Bz6 p (penC (v_law_others_t14 q field_here).2)) from (r_law_draw (sub := sub) (k := k + 2) (S := Bz6) (p := p) (q := (v_law_others_j13 q field_here).2) obz6 (fr_lt fbz6 hp) h.2.2.2.2.2.1))) rfl]
  rw [cs_asgT (X := ⟨Rs.run tab sub (k + 3), sub⟩) (env := [some (D.ref p), some ((eT (e2 D.int D.int)) field_here), some (D.int (v_law_others_t14 q field_here).1), none, none, some (D.ref S.length), some (D.int (maxV (field_here.map fun x3 => (maxV [x3.1, x3.2])))), none, none, none]) (S := (List.set Bz6 p (penC (v_law_others_t14 q field_here).2))) (t := (.tup (.cons (.nm 7) (.cons (.nm 8) .nil)))) (d := ((e2 D.int D.int) (gI field_here (v_law_others_t14 q field_here).1))) (env1 := [some (D.ref p), some ((eT (e2 D.int D.int)) field_here), some (D.int (v_law_others_t14 q field_here).1), none, none, some (D.ref S.length), some (D.int (maxV (field_here.map fun x3 => (maxV [x3.1, x3.2])))), some (D.int (gI field_here (v_law_others_t14 q field_here).1).1), some (D.int (gI field_here (v_law_others_t14 q field_here).1).2), none]) (ev_ix (ev_var rfl) (ev_var rfl) (x_T h.2.2.2.2.2.2.1)) rfl]
  obtain ⟨e_, S_, hf_, j17, Bz26, rfl, ⟨obz26, fbz26, g_found_z26, _⟩, rfl⟩ := for_fld2 (X := ⟨Rs.run tab sub (k + 3), sub⟩) (t := (.nm 3)) (b := b__law_others_b1) (P := (fun (s_ : (List (List (Int × Int))) × Pen) (e_ : Nv) (S_ : Store) => ∃ (j17 : Option D) (B_ : Store), e_ = [some (D.ref p), some ((eT (e2 D.int D.int)) field_here), some (D.int (v_law_others_t14 q field_here).1), j17, none, some (D.ref S.length), some (D.int (maxV (field_here.map fun x3 => (maxV [x3.1, x3.2])))), some (D.int (gI field_here (v_law_others_t14 q field_here).1).1), some (D.int (gI field_here (v_law_others_t14 q field_here).1).2), none] ∧ (OKS B_ ∧ Fr S B_ ∧ B_[S.length]? = some (Cell.lst (s_.1.map (eT (e2 D.int D.int)))) ∧ True) ∧ (List.set B_ p (penC s_.2)) = S_)) (e := (e2 D.int D.int)) (step := (v_law_others_b18 q field_here)) (ok := (ok_law_others_b18 q field_here)) (r_law_others_b18 (sub := sub) (k := k) (S := S) (p := p) hp (k_found := S.length) (fr_le fr_refl)  q field_here) [(((gI field_here (v_law_others_t14 q field_here).1).1 + (1 : Int)), (gI field_here (v_law_others_t14 q field_here).1).2), (((gI field_here (v_law_others_t14 q field_here).1).1 - (1 : Int)), (gI field_here (v_law_others_t14 q field_here).1).2), ((gI field_here (v_law_others_t14 q field_here).1).1, ((gI field_here (v_law_others_t14 q field_here).1).2 + (1 : Int))), ((gI field_here (v_law_others_t14 q field_here).1).1, ((gI field_here (v_law_others_t14 q field_here).1).2 - (1 : Int))), ((v_law_others_t15 q field_here).1, (v_law_others_t16 q field_here).1)] ((v_law_others_j13 q field_here).1, (v_law_others_t16 q field_here).2) [some (D.ref p), some ((eT (e2 D.int D.int)) field_here), some (D.int (v_law_others_t14 q field_here).1), none, none, some (D.ref S.length), some (D.int (maxV (field_here.map fun x3 => (maxV [x3.1, x3.2])))), some (D.int (gI field_here (v_law_others_t14 q field_here).1).1), some (D.int (gI field_here (v_law_others_t14 q field_here).1).2), none] (List.set Bz6 p (penC (v_law_others_t16 q field_here).2)) ⟨_, Bz6, rfl, ⟨obz6, fbz6, g_found_z6, trivial⟩, rfl⟩ h.2.2.2.2.2.2.2.2.2.1 (show (List.foldl (v_law_others_b18 q field_here) ((v_law_others_j13 q field_here).1, (v_law_others_t16 q field_here).2) [(((gI field_here (v_law_others_t14 q field_here).1).1 + (1 : Int)), (gI field_here (v_law_others_t14 q field_here).1).2), (((gI field_here (v_law_others_t14 q field_here).1).1 - (1 : Int)), (gI field_here (v_law_others_t14 q field_here).1).2), ((gI field_here (v_law_others_t14 q field_here).1).1, ((gI field_here (v_law_others_t14 q field_here).1).2 + (1 : Int))), ((gI field_here (v_law_others_t14 q field_here).1).1, ((gI field_here (v_law_others_t14 q field_here).1).2 - (1 : Int))), ((v_law_others_t15 q field_here).1, (v_law_others_t16 q field_here).1)]) = (v_law_others_l27 q field_here) from rfl)
  rw [cs_for (X := ⟨Rs.run tab sub (k + 3), sub⟩) (env := [some (D.ref p), some ((eT (e2 D.int D.int)) field_here), some (D.int (v_law_others_t14 q field_here).1), none, none, some (D.ref S.length), some (D.int (maxV (field_here.map fun x3 => (maxV [x3.1, x3.2])))), some (D.int (gI field_here (v_law_others_t14 q field_here).1).1), some (D.int (gI field_here (v_law_others_t14 q field_here).1).2), none]) (S := (List.set Bz6 p (penC (v_law_others_t14 q field_here).2))) (it_T (ev_tupT (e := (e2 D.int D.int)) (xs := [(((gI field_here (v_law_others_t14 q field_here).1).1 + (1 : Int)), (gI field_here (v_law_others_t14 q field_here).1).2), (((gI field_here (v_law_others_t14 q field_here).1).1 - (1 : Int)), (gI field_here (v_law_others_t14 q field_here).1).2), ((gI field_here (v_law_others_t14 q field_here).1).1, ((gI field_here (v_law_others_t14 q field_here).1).2 + (1 : Int))), ((gI field_here (v_law_others_t14 q field_here).1).1, ((gI field_here (v_law_others_t14 q field_here).1).2 - (1 : Int))), ((v_law_others_t15 q field_here).1, (v_law_others_t16 q field_here).1)]) (es_cons (ev_tup2 (a := D.int) (b := D.int) (x := ((gI field_here (v_law_others_t14 q field_here).1).1 + (1 : Int))) (y := (gI field_here (v_law_others_t14 q field_here).1).2) (es_cons (ev_bop (ev_var rfl) ev_cst o_add) (es_cons (ev_var rfl) es_nil))) (es_cons (ev_tup2 (a := D.int) (b := D.int) (x := ((gI field_here (v_law_others_t14 q field_here).1).1 - (1 : Int))) (y := (gI field_here (v_law_others_t14 q field_here).1).2) (es_cons (ev_bop (ev_var rfl) ev_cst o_sub) (es_cons (ev_var rfl) es_nil))) (es_cons (ev_tup2 (a := D.int) (b := D.int) (x := (gI field_here (v_law_others_t14 q field_here).1).1) (y := ((gI field_here (v_law_others_t14 q field_here).1).2 + (1 : Int))) (es_cons (ev_var rfl) (es_cons (ev_bop (ev_var rfl) ev_cst o_add) es_nil))) (es_cons (ev_tup2 (a := D.int) (b := D.int) (x := (gI field_here (v_law_others_t14 q field_here).1).1) (y := ((gI field_here (v_law_others_t14 q field_here).1).2 - (1 : Int))) (es_cons (ev_var rfl) (es_cons (ev_bop (ev_var rfl) ev_cst o_sub) es_nil))) (es_cons (ev_tup2 (a := D.int) (b := D.int) (x := (v_law_others_t15 q field_here).1) (y := (v_law_others_t16 q field_here).1) (es_cons (ev_call (es_cons (ev_var rfl) (es_cons ev_cst es_nil)) (show _ = R.ok (D.int (v_law_others_t15 q field_here).1) (List.set Bz6 p (penC (v_law_others_t15 q field_here).2)) from (r_law_draw (sub := sub) (k := k + 2) (S := Bz6) (p := p) (q := (v_law_others_t14 q field_here).2) obz6 (fr_lt fbz6 hp) h.2.2.2.2.2.2.2.1))) (es_cons (ev_call (es_cons (ev_var rfl) (es_cons ev_cst es_nil)) (show _ = R.ok (D.int (v_law_others_t16 q field_here).1) (List.set Bz6 p (penC (v_law_others_t16 q field_here).2)) from (r_law_draw (sub := sub) (k := k + 2) (S := Bz6) (p := p) (q := (v_law_others_t15 q field_here).2) obz6 (fr_lt fbz6 hp) h.2.2.2.2.2.2.2.2.1))) es_nil))) es_nil))))) (Nat.le_of_ble_eq_true rfl))) hf_]
  rw [cs_asg (X := ⟨Rs.run tab sub (k + 3), sub⟩) (env := [some (D.ref p), some ((eT (e2 D.int D.int)) field_here), some (D.int (v_law_others_t14 q field_here).1), j17, none, some (D.ref S.length), some (D.int (maxV (field_here.map fun x3 => (maxV [x3.1, x3.2])))), some (D.int (gI field_here (v_law_others_t14 q field_here).1).1), some (D.int (gI field_here (v_law_others_t14 q field_here).1).2), none]) (S := (List.set Bz26 p (penC (v_law_others_l27 q field_here).2))) (i := 4) (d := ((eT (e2 D.int D.int)) (v_law_others_t28 q field_here).1)) (env1 := [some (D.ref p), some ((eT (e2 D.int D.int)) field_here), some (D.int (v_law_others_t14 q field_here).1), j17, some ((eT (e2 D.int D.int)) (v_law_others_t28 q field_here).1), some (D.ref S.length), some (D.int (maxV (field_here.map fun x3 => (maxV [x3.1, x3.2])))), some (D.int (gI field_here (v_law_others_t14 q field_here).1).1), some (D.int (gI field_here (v_law_others_t14 q field_here).1).2), none]) (ev_call (es_cons (ev_var rfl) (es_cons (ev_blt (es_cons (ev_var rfl) es_nil) b_lenT) es_nil)) (show _ = R.ok ((eT (e2 D.int D.int)) (v_law_others_t28 q field_here).1) (List.set Bz26 p (penC (v_law_others_t28 q field_here).2)) from (r_law_field (sub := sub) (k := k) (S := Bz26) (p := p) (q := (v_law_others_l27 q field_here).2) obz26 (fr_lt fbz26 hp) h.2.2.2.2.2.2.2.2.2.2.1))) rfl]
  exact fun_ret (ev_bop (ev_var rfl) (ev_bop (ev_lstL (e := (eT (e2 D.int D.int))) (xs := [(v_law_others_t28 q field_here).1]) (es_cons (ev_var rfl) es_nil) (Nat.le_of_ble_eq_true rfl)) (ev_blt (es_cons (ev_cmp (ev_blt (es_cons (ev_var rfl) es_nil) b_lenT) (ev_blt (es_cons (ev_var rfl) es_nil) b_lenT) (o_eq ge_int)) es_nil) b_intB) (o_mulL h.2.2.2.2.2.2.2.2.2.2.2.1)) (o_ref1 (xs := (v_law_others_l27 q field_here).1) (ys := ((List.replicate (if (eqB ((v_law_others_t28 q field_here).1.length : Int) (field_here.length : Int)) = true then (1 : Int) else 0).toNat [(v_law_others_t28 q field_here).1]).flatten)) (get_pen g_found_z26 (ne_pen hp (fr_le fr_refl))) h.2.2.2.2.2.2.2.2.2.2.2.2)) (qq_leafB (v := (((v_law_others_l27 q field_here).1 ++ ((List.replicate (if (eqB ((v_law_others_t28 q field_here).1.length : Int) (field_here.length : Int)) = true then (1 : Int) else 0).toNat [(v_law_others_t28 q field_here).1]).flatten)), (v_law_others_t28 q field_here).2)) fbz26 hp ((ce_L (ce_T (ce_2 ce_int ce_int))) _))
theorem r_lk03_b40 {k : Nat} {S : Store} (hs : OKS S) {p : Nat} (hp : p < S.length) (script : (List Int)) (x17 : Int) (s30 : Pen) (x32 : Int) (j22 : Option D) (j28 : Option D)  : ∀ (s41 : Pen) (x43 : (List Int)) (env : Nv) (S_ : Store), (fun (s_ : Pen) (e_ : Nv) (S_ : Store) => ∃ j34 j35 j36 j37 j38 j39 : Option D, e_ = [some (D.scr script), some (D.int x17), some (D.ref p), some (D.int x32), some ((eT (e2 D.int D.int)) (v_lk03_t33 s30).1), some (D.str (txt ((eT (e2 D.int D.int)) (v_lk03_t33 s30).1))), j34, j22, j35, j36, j37, j38, j39, j28, none] ∧ (List.set S p (penC s_)) = S_) s41 env S_ → ok_lk03_b40 script x17 s30 x32 s41 x43 → ∃ env1 S1_, bindT ⟨Rs.run tab sub (k + 6), sub⟩ (.nm 6) ((eT D.int) x43) env S_ = .ok env1 S1_ ∧ Blk (fun (s_ : Pen) (e_ : Nv) (S_ : Store) => ∃ j34 j35 j36 j37 j38 j39 : Option D, e_ = [some (D.scr script), some (D.int x17), some (D.ref p), some (D.int x32), some ((eT (e2 D.int D.int)) (v_lk03_t33 s30).1), some (D.str (txt ((eT (e2 D.int D.int)) (v_lk03_t33 s30).1))), j34, j22, j35, j36, j37, j38, j39, j28, none] ∧ (List.set S p (penC s_)) = S_) (fun (v : Bool) (d : D) (_ : Store) => d = D.bl v) (evCs ⟨Rs.run tab sub (k + 6), sub⟩ b_law_b1 env1 S1_) (v_lk03_b40 script x17 s30 x32 s41 x43) := by
  rintro s41 x43 env S_ ⟨j34, j35, j36, j37, j38, j39, rfl, rfl⟩ h
  unfold ok_lk03_b40 at h
  refine ⟨[some (D.scr script), some (D.int x17), some (D.ref p), some (D.int x32), some ((eT (e2 D.int D.int)) (v_lk03_t33 s30).1), some (D.str (txt ((eT (e2 D.int D.int)) (v_lk03_t33 s30).1))), some ((eT D.int) x43), j22, j35, j36, j37, j38, j39, j28, none], (List.set S p (penC s41)), rfl, ?_⟩
  unfold b_law_b1 v_lk03_b40
  rw [cs_asgT (X := ⟨Rs.run tab sub (k + 6), sub⟩) (env := [some (D.scr script), some (D.int x17), some (D.ref p), some (D.int x32), some ((eT (e2 D.int D.int)) (v_lk03_t33 s30).1), some (D.str (txt ((eT (e2 D.int D.int)) (v_lk03_t33 s30).1))), some ((eT D.int) x43), j22, j35, j36, j37, j38, j39, j28, none]) (S := (List.set S p (penC s41))) (t := (.tup (.cons (.nm 10) (.cons (.nm 11) (.cons (.nm 12) .nil))))) (d := ((eL D.int) (v_lk03_t45 s41 x43))) (env1 := [some (D.scr script), some (D.int x17), some (D.ref p), some (D.int x32), some ((eT (e2 D.int D.int)) (v_lk03_t33 s30).1), some (D.str (txt ((eT (e2 D.int D.int)) (v_lk03_t33 s30).1))), some ((eT D.int) x43), j22, j35, j36, some (D.int (gI (v_lk03_t45 s41 x43) 0)), some (D.int (gI (v_lk03_t45 s41 x43) 1)), some (D.int (gI (v_lk03_t45 s41 x43) 2)), j28, none]) (ev_call (es_cons (ev_var rfl) (es_cons (ev_var rfl) es_nil)) (show _ = R.ok ((eL D.int) (v_lk03_t44 s41 x43).1) (List.set S p (penC (v_lk03_t44 s41 x43).2)) from (r_law_mixed (sub := sub) (k := k + 4) (S := S) (p := p) (q := s41) hs hp h.1))) (by rw [(eL_3 h.2.1)]; rfl)]
  rw [cs_asg (X := ⟨Rs.run tab sub (k + 6), sub⟩) (env := [some (D.scr script), some (D.int x17), some (D.ref p), some (D.int x32), some ((eT (e2 D.int D.int)) (v_lk03_t33 s30).1), some (D.str (txt ((eT (e2 D.int D.int)) (v_lk03_t33 s30).1))), some ((eT D.int) x43), j22, j35, j36, some (D.int (gI (v_lk03_t45 s41 x43) 0)), some (D.int (gI (v_lk03_t45 s41 x43) 1)), some (D.int (gI (v_lk03_t45 s41 x43) 2)), j28, none]) (S := (List.set S p (penC (v_lk03_t44 s41 x43).2))) (i := 8) (d := (D.int (v_lk03_due_here_46 s30 s41 x43))) (env1 := [some (D.scr script), some (D.int x17), some (D.ref p), some (D.int x32), some ((eT (e2 D.int D.int)) (v_lk03_t33 s30).1), some (D.str (txt ((eT (e2 D.int D.int)) (v_lk03_t33 s30).1))), some ((eT D.int) x43), j22, some (D.int (v_lk03_due_here_46 s30 s41 x43)), j36, some (D.int (gI (v_lk03_t45 s41 x43) 0)), some (D.int (gI (v_lk03_t45 s41 x43) 1)), some (D.int (gI (v_lk03_t45 s41 x43) 2)), j28, none]) (ev_call (es_cons (ev_var rfl) (es_cons (ev_var rfl) (es_cons (ev_var rfl) (es_cons (ev_var rfl) es_nil)))) (r_law_side (sub := sub) (k := k + 4) (S := (List.set S p (penC (v_lk03_t44 s41 x43).2))) (oks_pen hs) h.2.2.1)) rfl]
  rw [cs_asg (X := ⟨Rs.run tab sub (k + 6), sub⟩) (env := [some (D.scr script), some (D.int x17), some (D.ref p), some (D.int x32), some ((eT (e2 D.int D.int)) (v_lk03_t33 s30).1), some (D.str (txt ((eT (e2 D.int D.int)) (v_lk03_t33 s30).1))), some ((eT D.int) x43), j22, some (D.int (v_lk03_due_here_46 s30 s41 x43)), j36, some (D.int (gI (v_lk03_t45 s41 x43) 0)), some (D.int (gI (v_lk03_t45 s41 x43) 1)), some (D.int (gI (v_lk03_t45 s41 x43) 2)), j28, none]) (S := (List.set S p (penC (v_lk03_t44 s41 x43).2))) (i := 9) (d := ((eL D.int) (v_lk03_told_47 s30 s41 x43))) (env1 := [some (D.scr script), some (D.int x17), some (D.ref p), some (D.int x32), some ((eT (e2 D.int D.int)) (v_lk03_t33 s30).1), some (D.str (txt ((eT (e2 D.int D.int)) (v_lk03_t33 s30).1))), some ((eT D.int) x43), j22, some (D.int (v_lk03_due_here_46 s30 s41 x43)), some ((eL D.int) (v_lk03_told_47 s30 s41 x43)), some (D.int (gI (v_lk03_t45 s41 x43) 0)), some (D.int (gI (v_lk03_t45 s41 x43) 1)), some (D.int (gI (v_lk03_t45 s41 x43) 2)), j28, none]) (ev_lstL (e := D.int) (xs := [(v_turn (v_lk03_t33 s30).1 (gI (v_lk03_t45 s41 x43) 0) (gI (v_lk03_t45 s41 x43) 1) (gI (v_lk03_t45 s41 x43) 2)), (v_turn (v_lk03_t33 s30).1 (gI (v_lk03_t45 s41 x43) 1) (gI (v_lk03_t45 s41 x43) 0) (gI (v_lk03_t45 s41 x43) 2)), (v_turn (v_lk03_t33 s30).1 (gI (v_lk03_t45 s41 x43) 2) (gI (v_lk03_t45 s41 x43) 0) (gI (v_lk03_t45 s41 x43) 1))]) (es_cons (ev_call (es_cons (ev_var rfl) (es_cons (ev_var rfl) (es_cons (ev_var rfl) (es_cons (ev_var rfl) es_nil)))) (r_turn (sub := sub) (k := k) (S := (List.set S p (penC (v_lk03_t44 s41 x43).2))) (oks_pen hs) h.2.2.2.1)) (es_cons (ev_call (es_cons (ev_var rfl) (es_cons (ev_var rfl) (es_cons (ev_var rfl) (es_cons (ev_var rfl) es_nil)))) (r_turn (sub := sub) (k := k) (S := (List.set S p (penC (v_lk03_t44 s41 x43).2))) (oks_pen hs) h.2.2.2.2.1)) (es_cons (ev_call (es_cons (ev_var rfl) (es_cons (ev_var rfl) (es_cons (ev_var rfl) (es_cons (ev_var rfl) es_nil)))) (r_turn (sub := sub) (k := k) (S := (List.set S p (penC (v_lk03_t44 s41 x43).2))) (oks_pen hs) h.2.2.2.2.2.1)) es_nil))) (Nat.le_of_ble_eq_true rfl)) rfl]
  refine cs_if (x := (Lp.rt false)) (y := (Lp.nx (v_lk03_t44 s41 x43).2)) (ev_not (ev_call (es_cons (ev_var rfl) (es_cons (ev_lst (es_cons (ev_var rfl) (es_cons (ev_bop ev_cst (ev_var rfl) o_sub) (es_cons (ev_var rfl) es_nil))) (Nat.le_of_ble_eq_true rfl)) es_nil)) (r_law_same (sub := sub) (k := k + 5) (S := (List.set S p (penC (v_lk03_t44 s41 x43).2))) (oks_pen hs) h.2.2.2.2.2.2)) t_bl) t_bl (fun hb48 => ?_) (fun hb48 => ?_)
  · dsimp only [capp]
    exact blk_ret ev_cst rfl
  · dsimp only [capp]
    exact blk_nx ⟨_, _, _, _, _, _, rfl, rfl⟩
theorem r_lk03_b56 {k : Nat} {S : Store} (hs : OKS S) {p : Nat} (hp : p < S.length) (script : (List Int)) (x17 : Int) (s30 : Pen) (x32 : Int) (j34 : Option D) (j37 : Option D) (j38 : Option D) (j39 : Option D)  : ∀ (s57 : Pen) (x59 : (List (Int × Int))) (env : Nv) (S_ : Store), (fun (s_ : Pen) (e_ : Nv) (S_ : Store) => ∃ j52 j53 j54 j55 : Option D, e_ = [some (D.scr script), some (D.int x17), some (D.ref p), some (D.int x32), some ((eT (e2 D.int D.int)) (v_lk03_t33 s30).1), some (D.str (txt ((eT (e2 D.int D.int)) (v_lk03_t33 s30).1))), j34, j52, j53, j54, j37, j38, j39, j55, none] ∧ (List.set S p (penC s_)) = S_) s57 env S_ → ok_lk03_b56 script x17 s30 x32 s57 x59 → ∃ env1 S1_, bindT ⟨Rs.run tab sub (k + 6), sub⟩ (.nm 7) ((eT (e2 D.int D.int)) x59) env S_ = .ok env1 S1_ ∧ Blk (fun (s_ : Pen) (e_ : Nv) (S_ : Store) => ∃ j52 j53 j54 j55 : Option D, e_ = [some (D.scr script), some (D.int x17), some (D.ref p), some (D.int x32), some ((eT (e2 D.int D.int)) (v_lk03_t33 s30).1), some (D.str (txt ((eT (e2 D.int D.int)) (v_lk03_t33 s30).1))), j34, j52, j53, j54, j37, j38, j39, j55, none] ∧ (List.set S p (penC s_)) = S_) (fun (v : Bool) (d : D) (_ : Store) => d = D.bl v) (evCs ⟨Rs.run tab sub (k + 6), sub⟩ b_law_b2 env1 S1_) (v_lk03_b56 script x17 s30 x32 s57 x59) := by
  rintro s57 x59 env S_ ⟨j52, j53, j54, j55, rfl, rfl⟩ h
  unfold ok_lk03_b56 at h
  refine ⟨[some (D.scr script), some (D.int x17), some (D.ref p), some (D.int x32), some ((eT (e2 D.int D.int)) (v_lk03_t33 s30).1), some (D.str (txt ((eT (e2 D.int D.int)) (v_lk03_t33 s30).1))), j34, some ((eT (e2 D.int D.int)) x59), j53, j54, j37, j38, j39, j55, none], (List.set S p (penC s57)), rfl, ?_⟩
  unfold b_law_b2 v_lk03_b56
  rw [cs_par (X := ⟨Rs.run tab sub (k + 6), sub⟩) (env := [some (D.scr script), some (D.int x17), some (D.ref p), some (D.int x32), some ((eT (e2 D.int D.int)) (v_lk03_t33 s30).1), some (D.str (txt ((eT (e2 D.int D.int)) (v_lk03_t33 s30).1))), j34, some ((eT (e2 D.int D.int)) x59), j53, j54, j37, j38, j39, j55, none]) (S := (List.set S p (penC s57))) (ts := [13, 8]) (env1 := [some (D.scr script), some (D.int x17), some (D.ref p), some (D.int x32), some ((eT (e2 D.int D.int)) (v_lk03_t33 s30).1), some (D.str (txt ((eT (e2 D.int D.int)) (v_lk03_t33 s30).1))), j34, some ((eT (e2 D.int D.int)) x59), some (v_law_due (v_lk03_t33 s30).1 x59), j54, j37, j38, j39, some (D.str (txt ((eT (e2 D.int D.int)) x59))), none]) (es_cons (ev_blt (es_cons (ev_var rfl) es_nil) (b_repr h.1)) (es_cons (ev_call (es_cons (ev_var rfl) (es_cons (ev_var rfl) es_nil)) (r_law_due (sub := sub) (k := k + 3) (S := (List.set S p (penC s57))) (oks_pen hs) h.2.1)) es_nil)) rfl]
  rw [cs_asg (X := ⟨Rs.run tab sub (k + 6), sub⟩) (env := [some (D.scr script), some (D.int x17), some (D.ref p), some (D.int x32), some ((eT (e2 D.int D.int)) (v_lk03_t33 s30).1), some (D.str (txt ((eT (e2 D.int D.int)) (v_lk03_t33 s30).1))), j34, some ((eT (e2 D.int D.int)) x59), some (v_law_due (v_lk03_t33 s30).1 x59), j54, j37, j38, j39, some (D.str (txt ((eT (e2 D.int D.int)) x59))), none]) (S := (List.set S p (penC s57))) (i := 9) (d := ((eL eD) ((rgI 0 (2 : Int)).map fun x60 => (v_alike (v_lk03_t33 s30).1 x59)))) (env1 := [some (D.scr script), some (D.int x17), some (D.ref p), some (D.int x32), some ((eT (e2 D.int D.int)) (v_lk03_t33 s30).1), some (D.str (txt ((eT (e2 D.int D.int)) (v_lk03_t33 s30).1))), j34, some ((eT (e2 D.int D.int)) x59), some (v_law_due (v_lk03_t33 s30).1 x59), some ((eL eD) ((rgI 0 (2 : Int)).map fun x60 => (v_alike (v_lk03_t33 s30).1 x59))), j37, j38, j39, some (D.str (txt ((eT (e2 D.int D.int)) x59))), none]) (lc_map (e := D.int) (e' := eD) (G := fun x60 => (v_alike (v_lk03_t33 s30).1 x59)) (w := fun x60 => [some (D.scr script), some (D.int x17), some (D.ref p), some (D.int x32), some ((eT (e2 D.int D.int)) (v_lk03_t33 s30).1), some (D.str (txt ((eT (e2 D.int D.int)) (v_lk03_t33 s30).1))), j34, some ((eT (e2 D.int D.int)) x59), some (v_law_due (v_lk03_t33 s30).1 x59), j54, j37, j38, j39, some (D.str (txt ((eT (e2 D.int D.int)) x59))), some (D.int x60)]) (it_rng (es_cons ev_cst es_nil) (rng1 (by decide))) (fun x60 hx61 => rfl) (fun x60 hx61 => (ev_call (es_cons (ev_var rfl) (es_cons (ev_var rfl) es_nil)) (r_alike (sub := sub) (k := k) (S := (List.set S p (penC s57))) (oks_pen hs) (h.2.2.1 x60 hx61)))) h.2.2.2.1) rfl]
  refine cs_if (x := (Lp.rt false)) (y := (Lp.nx s57)) (ev_or (ev_not (ev_call (es_cons (ev_var rfl) (es_cons (ev_lst (es_cons (ev_var rfl) (es_cons (ev_var rfl) es_nil)) (Nat.le_of_ble_eq_true rfl)) es_nil)) (r_law_same (sub := sub) (k := k + 5) (S := (List.set S p (penC s57))) (oks_pen hs) h.2.2.2.2.1)) t_bl) (fun hb62 => (ev_cmp (ev_blt (es_cons (ev_var rfl) es_nil) (b_repr (h.2.2.2.2.2 hb62))) (ev_var rfl) o_neS))) t_bl (fun hb63 => ?_) (fun hb63 => ?_)
  · dsimp only [capp]
    exact blk_ret ev_cst rfl
  · dsimp only [capp]
    exact blk_nx ⟨_, _, _, _, rfl, rfl⟩
theorem r_lk03_b29 {k : Nat} {S : Store} (hs : OKS S) {p : Nat} (hp : p < S.length) (script : (List Int)) (x17 : Int)  : ∀ (s30 : Pen) (x32 : Int) (env : Nv) (S_ : Store), (fun (s_ : Pen) (e_ : Nv) (S_ : Store) => ∃ j18 j19 j20 j21 j22 j23 j24 j25 j26 j27 j28 : Option D, e_ = [some (D.scr script), some (D.int x17), some (D.ref p), j18, j19, j20, j21, j22, j23, j24, j25, j26, j27, j28, none] ∧ (List.set S p (penC s_)) = S_) s30 env S_ → ok_lk03_b29 script x17 s30 x32 → ∃ env1 S1_, bindT ⟨Rs.run tab sub (k + 6), sub⟩ (.nm 3) (D.int x32) env S_ = .ok env1 S1_ ∧ Blk (fun (s_ : Pen) (e_ : Nv) (S_ : Store) => ∃ j18 j19 j20 j21 j22 j23 j24 j25 j26 j27 j28 : Option D, e_ = [some (D.scr script), some (D.int x17), some (D.ref p), j18, j19, j20, j21, j22, j23, j24, j25, j26, j27, j28, none] ∧ (List.set S p (penC s_)) = S_) (fun (v : Bool) (d : D) (_ : Store) => d = D.bl v) (evCs ⟨Rs.run tab sub (k + 6), sub⟩ b_law_b3 env1 S1_) (v_lk03_b29 script x17 s30 x32) := by
  rintro s30 x32 env S_ ⟨j18, j19, j20, j21, j22, j23, j24, j25, j26, j27, j28, rfl, rfl⟩ h
  unfold ok_lk03_b29 at h
  refine ⟨[some (D.scr script), some (D.int x17), some (D.ref p), some (D.int x32), j19, j20, j21, j22, j23, j24, j25, j26, j27, j28, none], (List.set S p (penC s30)), rfl, ?_⟩
  unfold b_law_b3 v_lk03_b29
  rw [cs_asg (X := ⟨Rs.run tab sub (k + 6), sub⟩) (env := [some (D.scr script), some (D.int x17), some (D.ref p), some (D.int x32), j19, j20, j21, j22, j23, j24, j25, j26, j27, j28, none]) (S := (List.set S p (penC s30))) (i := 4) (d := ((eT (e2 D.int D.int)) (v_lk03_t33 s30).1)) (env1 := [some (D.scr script), some (D.int x17), some (D.ref p), some (D.int x32), some ((eT (e2 D.int D.int)) (v_lk03_t33 s30).1), j20, j21, j22, j23, j24, j25, j26, j27, j28, none]) (ev_call (es_cons (ev_var rfl) (es_cons ev_cst es_nil)) (show _ = R.ok ((eT (e2 D.int D.int)) (v_lk03_t33 s30).1) (List.set S p (penC (v_lk03_t33 s30).2)) from (r_law_field (sub := sub) (k := k + 3) (S := S) (p := p) (q := s30) hs hp h.1))) rfl]
  rw [cs_asg (X := ⟨Rs.run tab sub (k + 6), sub⟩) (env := [some (D.scr script), some (D.int x17), some (D.ref p), some (D.int x32), some ((eT (e2 D.int D.int)) (v_lk03_t33 s30).1), j20, j21, j22, j23, j24, j25, j26, j27, j28, none]) (S := (List.set S p (penC (v_lk03_t33 s30).2))) (i := 5) (d := (D.str (txt ((eT (e2 D.int D.int)) (v_lk03_t33 s30).1)))) (env1 := [some (D.scr script), some (D.int x17), some (D.ref p), some (D.int x32), some ((eT (e2 D.int D.int)) (v_lk03_t33 s30).1), some (D.str (txt ((eT (e2 D.int D.int)) (v_lk03_t33 s30).1))), j21, j22, j23, j24, j25, j26, j27, j28, none]) (ev_blt (es_cons (ev_var rfl) es_nil) (b_repr h.2.1)) rfl]
  have hl_ := for_rel (X := ⟨Rs.run tab sub (k + 6), sub⟩) (t := (.nm 6)) (b := b_law_b1) (P := (fun (s_ : Pen) (e_ : Nv) (S_ : Store) => ∃ j34 j35 j36 j37 j38 j39 : Option D, e_ = [some (D.scr script), some (D.int x17), some (D.ref p), some (D.int x32), some ((eT (e2 D.int D.int)) (v_lk03_t33 s30).1), some (D.str (txt ((eT (e2 D.int D.int)) (v_lk03_t33 s30).1))), j34, j22, j35, j36, j37, j38, j39, j28, none] ∧ (List.set S p (penC s_)) = S_)) (Q := (fun (v : Bool) (d : D) (_ : Store) => d = D.bl v)) (e := (eT D.int)) (step := (v_lk03_b40 script x17 s30 x32)) (ok := (ok_lk03_b40 script x17 s30 x32)) (r_lk03_b40 (sub := sub) (k := k) (S := S) (p := p) hs hp script x17 s30 x32 j22 j28) (v_law_threesA (rgI 0 ((v_lk03_t33 s30).1.length : Int))) (v_lk03_t33 s30).2 [some (D.scr script), some (D.int x17), some (D.ref p), some (D.int x32), some ((eT (e2 D.int D.int)) (v_lk03_t33 s30).1), some (D.str (txt ((eT (e2 D.int D.int)) (v_lk03_t33 s30).1))), j21, j22, j23, j24, j25, j26, j27, j28, none] (List.set S p (penC (v_lk03_t33 s30).2)) ⟨_, _, _, _, _, _, rfl, rfl⟩ h.2.2.2.2.1
  cases hv_s50 : (forV (v_lk03_b40 script x17 s30 x32) (v_law_threesA (rgI 0 ((v_lk03_t33 s30).1.length : Int))) (v_lk03_t33 s30).2) with
  | nx s50 =>
    rw [hv_s50] at hl_
    obtain ⟨e_, S_, hf_, j34, j35, j36, j37, j38, j39, rfl, rfl⟩ := hl_
    rw [cs_for (X := ⟨Rs.run tab sub (k + 6), sub⟩) (env := [some (D.scr script), some (D.int x17), some (D.ref p), some (D.int x32), some ((eT (e2 D.int D.int)) (v_lk03_t33 s30).1), some (D.str (txt ((eT (e2 D.int D.int)) (v_lk03_t33 s30).1))), j21, j22, j23, j24, j25, j26, j27, j28, none]) (S := (List.set S p (penC (v_lk03_t33 s30).2))) (it_L (ev_call (es_cons (ev_rngL (es_cons (ev_blt (es_cons (ev_var rfl) es_nil) b_lenT) es_nil) (rng1 h.2.2.1)) es_nil) (r_law_threesA (sub := sub) (k := k + 5) (S := (List.set S p (penC (v_lk03_t33 s30).2))) (oks_pen hs) h.2.2.2.1))) hf_]
    dsimp only [Lp.fin]
    have hl_ := for_rel (X := ⟨Rs.run tab sub (k + 6), sub⟩) (t := (.nm 7)) (b := b_law_b2) (P := (fun (s_ : Pen) (e_ : Nv) (S_ : Store) => ∃ j52 j53 j54 j55 : Option D, e_ = [some (D.scr script), some (D.int x17), some (D.ref p), some (D.int x32), some ((eT (e2 D.int D.int)) (v_lk03_t33 s30).1), some (D.str (txt ((eT (e2 D.int D.int)) (v_lk03_t33 s30).1))), j34, j52, j53, j54, j37, j38, j39, j55, none] ∧ (List.set S p (penC s_)) = S_)) (Q := (fun (v : Bool) (d : D) (_ : Store) => d = D.bl v)) (e := (eT (e2 D.int D.int))) (step := (v_lk03_b56 script x17 s30 x32)) (ok := (ok_lk03_b56 script x17 s30 x32)) (r_lk03_b56 (sub := sub) (k := k) (S := S) (p := p) hs hp script x17 s30 x32 j34 j37 j38 j39) (v_lk03_t51 s30 s50).1 (v_lk03_t51 s30 s50).2 [some (D.scr script), some (D.int x17), some (D.ref p), some (D.int x32), some ((eT (e2 D.int D.int)) (v_lk03_t33 s30).1), some (D.str (txt ((eT (e2 D.int D.int)) (v_lk03_t33 s30).1))), j34, j22, j35, j36, j37, j38, j39, j28, none] (List.set S p (penC (v_lk03_t51 s30 s50).2)) ⟨_, _, _, _, rfl, rfl⟩ (h.2.2.2.2.2 s50 hv_s50).2.1
    cases hv_s65 : (forV (v_lk03_b56 script x17 s30 x32) (v_lk03_t51 s30 s50).1 (v_lk03_t51 s30 s50).2) with
    | nx s65 =>
      rw [hv_s65] at hl_
      obtain ⟨e_, S_, hf_, j52, j53, j54, j55, rfl, rfl⟩ := hl_
      rw [cs_for (X := ⟨Rs.run tab sub (k + 6), sub⟩) (env := [some (D.scr script), some (D.int x17), some (D.ref p), some (D.int x32), some ((eT (e2 D.int D.int)) (v_lk03_t33 s30).1), some (D.str (txt ((eT (e2 D.int D.int)) (v_lk03_t33 s30).1))), j34, j22, j35, j36, j37, j38, j39, j28, none]) (S := (List.set S p (penC s50))) (it_L (ev_call (es_cons (ev_var rfl) (es_cons (ev_var rfl) es_nil)) (show _ = R.ok ((eL (eT (e2 D.int D.int))) (v_lk03_t51 s30 s50).1) (List.set S p (penC (v_lk03_t51 s30 s50).2)) from (r_law_others (sub := sub) (k := k + 2) (S := S) (p := p) (q := s50) hs hp (h.2.2.2.2.2 s50 hv_s50).1)))) hf_]
      dsimp only [Lp.fin]
      refine cs_if (x := (Lp.rt false)) (y := (Lp.nx s65)) (ev_cmp (ev_blt (es_cons (ev_var rfl) es_nil) (b_repr ((h.2.2.2.2.2 s50 hv_s50).2.2 s65 hv_s65))) (ev_var rfl) o_neS) t_bl (fun hb66 => ?_) (fun hb66 => ?_)
      · dsimp only [capp]
        exact blk_ret ev_cst rfl
      · dsimp only [capp]
        exact blk_nx ⟨_, _, _, _, _, _, _, _, _, _, _, rfl, rfl⟩
    | bk s_ =>
      rw [hv_s65] at hl_
      exact hl_.elim
    | rt r_ =>
      rw [hv_s65] at hl_
      obtain ⟨d_, S_, hf_, hq_⟩ := hl_
      exact ⟨d_, S_, cs_for_rt (it_L (ev_call (es_cons (ev_var rfl) (es_cons (ev_var rfl) es_nil)) (show _ = R.ok ((eL (eT (e2 D.int D.int))) (v_lk03_t51 s30 s50).1) (List.set S p (penC (v_lk03_t51 s30 s50).2)) from (r_law_others (sub := sub) (k := k + 2) (S := S) (p := p) (q := s50) hs hp (h.2.2.2.2.2 s50 hv_s50).1)))) hf_, hq_⟩
  | bk s_ =>
    rw [hv_s50] at hl_
    exact hl_.elim
  | rt r_ =>
    rw [hv_s50] at hl_
    obtain ⟨d_, S_, hf_, hq_⟩ := hl_
    exact ⟨d_, S_, cs_for_rt (it_L (ev_call (es_cons (ev_rngL (es_cons (ev_blt (es_cons (ev_var rfl) es_nil) b_lenT) es_nil) (rng1 h.2.2.1)) es_nil) (r_law_threesA (sub := sub) (k := k + 5) (S := (List.set S p (penC (v_lk03_t33 s30).2))) (oks_pen hs) h.2.2.2.1))) hf_, hq_⟩
theorem r_lk03_b14 {k : Nat} (script : (List Int))  : ∀ (s15 : Unit) (x17 : Int) (env : Nv) (S_ : Store), (fun (s_ : Unit) (e_ : Nv) (S_ : Store) => ∃ j1 j2 j3 j4 j5 j6 j7 j8 j9 j10 j11 j12 j13 : Option D, e_ = [some (D.scr script), j1, j2, j3, j4, j5, j6, j7, j8, j9, j10, j11, j12, j13, none] ∧ OKS S_) s15 env S_ → ok_lk03_b14 script s15 x17 → ∃ env1 S1_, bindT ⟨Rs.run tab sub (k + 6), sub⟩ (.nm 1) (D.int x17) env S_ = .ok env1 S1_ ∧ Blk (fun (s_ : Unit) (e_ : Nv) (S_ : Store) => ∃ j1 j2 j3 j4 j5 j6 j7 j8 j9 j10 j11 j12 j13 : Option D, e_ = [some (D.scr script), j1, j2, j3, j4, j5, j6, j7, j8, j9, j10, j11, j12, j13, none] ∧ OKS S_) (fun (v : Bool) (d : D) (_ : Store) => d = D.bl v) (evCs ⟨Rs.run tab sub (k + 6), sub⟩ b_law_b4 env1 S1_) (v_lk03_b14 script s15 x17) := by
  rintro s15 x17 env S1 ⟨j1, j2, j3, j4, j5, j6, j7, j8, j9, j10, j11, j12, j13, rfl, hs1⟩ h
  unfold ok_lk03_b14 at h
  refine ⟨[some (D.scr script), some (D.int x17), j2, j3, j4, j5, j6, j7, j8, j9, j10, j11, j12, j13, none], S1, rfl, ?_⟩
  unfold b_law_b4 v_lk03_b14
  rw [cs_asg (X := ⟨Rs.run tab sub (k + 6), sub⟩) (env := [some (D.scr script), some (D.int x17), j2, j3, j4, j5, j6, j7, j8, j9, j10, j11, j12, j13, none]) (S := S1) (i := 2) (ev_call (es_cons (ev_call (es_cons (ev_var rfl) (es_cons (ev_var rfl) es_nil)) (r_law_cell_at (sub := sub) (k := k + 5) (S := S1) hs1 h.1)) es_nil) (r_law_pen (sub := sub) (k := k + 5) (S := S1) (c := (v_law_cell_at script x17)))) (env1 := [some (D.scr script), some (D.int x17), some (D.ref S1.length), j3, j4, j5, j6, j7, j8, j9, j10, j11, j12, j13, none]) rfl, new_set]
  have hl_ := for_rel (X := ⟨Rs.run tab sub (k + 6), sub⟩) (t := (.nm 3)) (b := b_law_b3) (P := (fun (s_ : Pen) (e_ : Nv) (S_ : Store) => ∃ j18 j19 j20 j21 j22 j23 j24 j25 j26 j27 j28 : Option D, e_ = [some (D.scr script), some (D.int x17), some (D.ref S1.length), j18, j19, j20, j21, j22, j23, j24, j25, j26, j27, j28, none] ∧ (List.set (S1 ++ [penC (penV (v_law_cell_at script x17))]) S1.length (penC s_)) = S_)) (Q := (fun (v : Bool) (d : D) (_ : Store) => d = D.bl v)) (e := D.int) (step := (v_lk03_b29 script x17)) (ok := (ok_lk03_b29 script x17)) (r_lk03_b29 (sub := sub) (k := k) (S := (S1 ++ [penC (penV (v_law_cell_at script x17))])) (p := S1.length) (oks_new (q := (penV (v_law_cell_at script x17))) hs1) (new_lt (q := (penV (v_law_cell_at script x17)))) script x17) (rgI 0 (3 : Int)) (penV (v_law_cell_at script x17)) [some (D.scr script), some (D.int x17), some (D.ref S1.length), j3, j4, j5, j6, j7, j8, j9, j10, j11, j12, j13, none] (List.set (S1 ++ [penC (penV (v_law_cell_at script x17))]) S1.length (penC (penV (v_law_cell_at script x17)))) ⟨_, _, _, _, _, _, _, _, _, _, _, rfl, rfl⟩ h.2
  cases hv_s68 : (forV (v_lk03_b29 script x17) (rgI 0 (3 : Int)) (penV (v_law_cell_at script x17))) with
  | nx s68 =>
    rw [hv_s68] at hl_
    obtain ⟨e_, S_, hf_, j18, j19, j20, j21, j22, j23, j24, j25, j26, j27, j28, rfl, rfl⟩ := hl_
    rw [cs_for (X := ⟨Rs.run tab sub (k + 6), sub⟩) (env := [some (D.scr script), some (D.int x17), some (D.ref S1.length), j3, j4, j5, j6, j7, j8, j9, j10, j11, j12, j13, none]) (S := (List.set (S1 ++ [penC (penV (v_law_cell_at script x17))]) S1.length (penC (penV (v_law_cell_at script x17))))) (it_rng (es_cons ev_cst es_nil) (rng1 (by decide))) hf_]
    dsimp only [Lp.fin]
    exact blk_nx ⟨_, _, _, _, _, _, _, _, _, _, _, _, _, rfl, (oks_pen (oks_new (q := (penV (v_law_cell_at script x17))) hs1))⟩
  | bk s_ =>
    rw [hv_s68] at hl_
    exact hl_.elim
  | rt r_ =>
    rw [hv_s68] at hl_
    obtain ⟨d_, S_, hf_, hq_⟩ := hl_
    exact ⟨d_, S_, cs_for_rt (it_rng (es_cons ev_cst es_nil) (rng1 (by decide))) hf_, hq_⟩
theorem r_lk03 {k : Nat} {script : (List Int)} (h : ok_lk03 script) : ∃ S_, run tab sub (k + 7) 24 [(D.scr script)] [] = .ok (D.bl (v_lk03 script)) S_ := by
  refine run_top (show tab[24]? = some ⟨1, 15, false, b_law⟩ from rfl) rfl rfl ?_
  show FunG (fun (v : Bool) (d : D) (_ : Store) => d = D.bl v) (evCs _ b_law [some (D.scr script), none, none, none, none, none, none, none, none, none, none, none, none, none, none] []) _
  unfold ok_lk03 at h
  unfold b_law v_lk03
  have hl_ := for_rel (X := ⟨Rs.run tab sub (k + 6), sub⟩) (t := (.nm 1)) (b := b_law_b4) (P := (fun (s_ : Unit) (e_ : Nv) (S_ : Store) => ∃ j1 j2 j3 j4 j5 j6 j7 j8 j9 j10 j11 j12 j13 : Option D, e_ = [some (D.scr script), j1, j2, j3, j4, j5, j6, j7, j8, j9, j10, j11, j12, j13, none] ∧ OKS S_)) (Q := (fun (v : Bool) (d : D) (_ : Store) => d = D.bl v)) (e := D.int) (step := (v_lk03_b14 script)) (ok := (ok_lk03_b14 script)) (r_lk03_b14 (sub := sub) (k := k)  script) (rgI 0 (if (if (3 : Int) < (script.length : Int) then (3 : Int) else (script.length : Int)) > (1 : Int) then (if (3 : Int) < (script.length : Int) then (3 : Int) else (script.length : Int)) else (1 : Int))) () [some (D.scr script), none, none, none, none, none, none, none, none, none, none, none, none, none, none] ([] : Store) ⟨_, _, _, _, _, _, _, _, _, _, _, _, _, rfl, oks_nil⟩ h.2
  cases hv_s70 : (forV (v_lk03_b14 script) (rgI 0 (if (if (3 : Int) < (script.length : Int) then (3 : Int) else (script.length : Int)) > (1 : Int) then (if (3 : Int) < (script.length : Int) then (3 : Int) else (script.length : Int)) else (1 : Int))) ()) with
  | nx s70 =>
    rw [hv_s70] at hl_
    obtain ⟨e_, S1, hf_, j1, j2, j3, j4, j5, j6, j7, j8, j9, j10, j11, j12, j13, rfl, hs1⟩ := hl_
    rw [cs_for (X := ⟨Rs.run tab sub (k + 6), sub⟩) (env := [some (D.scr script), none, none, none, none, none, none, none, none, none, none, none, none, none, none]) (S := ([] : Store)) (it_rng (es_cons (ev_blt (es_cons ev_cst (es_cons (ev_blt (es_cons (ev_blt (es_cons (ev_var rfl) es_nil) b_lenScr) (es_cons ev_cst es_nil)) b_min2) es_nil)) b_max2) es_nil) (rng1 h.1)) hf_]
    dsimp only [Lp.fin]
    exact fun_ret ev_cst rfl
  | bk s_ =>
    rw [hv_s70] at hl_
    exact hl_.elim
  | rt r_ =>
    rw [hv_s70] at hl_
    obtain ⟨d_, S_, hf_, hq_⟩ := hl_
    exact ⟨d_, S_, cs_for_rt (it_rng (es_cons (ev_blt (es_cons ev_cst (es_cons (ev_blt (es_cons (ev_blt (es_cons (ev_var rfl) es_nil) b_lenScr) (es_cons ev_cst es_nil)) b_min2) es_nil)) b_max2) es_nil) (rng1 h.1)) hf_, hq_⟩
end
end Lk03
end

section
set_option Elab.async false
set_option linter.all false
set_option maxRecDepth 100000
set_option maxHeartbeats 0
set_option autoImplicit false
namespace Jk03
open Rs PySem PySem.Spec PyProof.Rows L2
def top (i : Nat) : Stmt := PySem.Challenge.pw_ropestakes_k03_turns_and_fields_alike.main.body.getD i (.Pass ⟨0, 0, 0, 0⟩)
def G0 : List (Str × GK) := [("len", .blt), ("max", .blt), ("min", .blt), ("all", .blt), ("sorted", .blt), ("tuple", .blt), ("list", .blt), ("int", .blt), ("repr", .blt), ("set", .blt), ("range", .blt), ("enumerate", .blt), ("isinstance", .blt), ("bool", .blt), ("MOST_STAKES", .int 8), ("FARTHEST", .int 40), ("is_whole", .fn 0), ("is_among", .fn 1), ("are_some", .fn 2), ("is_place", .fn 3), ("bend", .fn 4), ("threes", .fn 5), ("is_field", .fn 6), ("need_field", .fn 7), ("need_stake", .fn 8)]
def G1 : List (Str × GK) := [("side", .fn 9), ("turn", .fn 10), ("alike", .fn 11), ("_law_cell_at", .fn 12), ("_law_pen", .fn 13), ("_law_draw", .fn 14), ("_law_same", .fn 15), ("_law_mixed", .fn 16), ("_law_bend", .fn 17), ("_law_is_free", .fn 18), ("_law_field", .fn 19), ("_law_side", .fn 20), ("_law_threes", .fn 21), ("_law_due", .fn 22), ("_law_others", .fn 23), ("law", .fn 24), ("NoField", .exc), ("NoStake", .exc)]
def G : List (Str × GK) := G0 ++ G1
def b_is_whole : Cs := (.cons (.ret (.and (.isi (.var 0) .int) (.not (.isi (.var 0) .bool)))) .nil)
def r_is_whole : DefR := ⟨⟨("is_whole", none), "is_whole", "is_whole", defArgs (top 7), defBody (top 7), defScope (top 7), [], []⟩, ["thing"], ["thing"], ⟨1, 1, false, b_is_whole⟩⟩
theorem ok_is_whole : DefOk (gOf G) r_is_whole := ⟨⟨rfl, rfl, rfl, by decide +kernel, rfl, by decide +kernel, by decide +kernel⟩, by decide +kernel, rfl, rfl, rfl, rfl, rfl, fun _ _ _ _ _ _ us hl => match us, hl with | [_], _ => rfl⟩
def b_is_among : Cs := (.cons (.ret (.and (.call 0 (.cons (.var 0) .nil)) (.chn .le .le (.var 1) (.var 0) (.var 2)))) .nil)
def r_is_among : DefR := ⟨⟨("is_among", none), "is_among", "is_among", defArgs (top 8), defBody (top 8), defScope (top 8), [], []⟩, ["thing", "low", "high"], ["thing", "low", "high"], ⟨3, 3, false, b_is_among⟩⟩
theorem ok_is_among : DefOk (gOf G) r_is_among := ⟨⟨rfl, rfl, rfl, by decide +kernel, rfl, by decide +kernel, by decide +kernel⟩, by decide +kernel, rfl, rfl, rfl, rfl, rfl, fun _ _ _ _ _ _ us hl => match us, hl with | [_, _, _], _ => rfl⟩
def b_are_some : Cs := (.cons (.ret (.and (.isi (.var 0) .tup) (.chn .le .le (.var 1) (.blt .len (.cons (.var 0) .nil)) (.var 2)))) .nil)
def r_are_some : DefR := ⟨⟨("are_some", none), "are_some", "are_some", defArgs (top 9), defBody (top 9), defScope (top 9), [], []⟩, ["thing", "low", "high"], ["thing", "low", "high"], ⟨3, 3, false, b_are_some⟩⟩
theorem ok_are_some : DefOk (gOf G) r_are_some := ⟨⟨rfl, rfl, rfl, by decide +kernel, rfl, by decide +kernel, by decide +kernel⟩, by decide +kernel, rfl, rfl, rfl, rfl, rfl, fun _ _ _ _ _ _ us hl => match us, hl with | [_, _, _], _ => rfl⟩
def b_is_place : Cs := (.cons (.ret (.and (.call 2 (.cons (.var 0) (.cons (.cst (.int 2)) (.cons (.cst (.int 2)) .nil)))) (.blt .all (.cons (.lc [1] (.call 1 (.cons (.var 1) (.cons (.cst (.int 0)) (.cons (.glo (Str.ofString "FARTHEST") (.int 40)) .nil)))) (.nm 1) (.of (.var 0)) .nil .nil) .nil)))) .nil)
def r_is_place : DefR := ⟨⟨("is_place", none), "is_place", "is_place", defArgs (top 10), defBody (top 10), defScope (top 10), [], []⟩, ["thing", "one"], ["thing"], ⟨1, 2, false, b_is_place⟩⟩
theorem ok_is_place : DefOk (gOf G) r_is_place := ⟨⟨rfl, rfl, rfl, by decide +kernel, rfl, by decide +kernel, by decide +kernel⟩, by decide +kernel, rfl, rfl, rfl, rfl, rfl, fun _ _ _ _ _ _ us hl => match us, hl with | [_], _ => rfl⟩
def b_bend : Cs := (.cons (.ret (.bop .sub (.bop .mul (.bop .sub (.ix (.var 1) (.cst (.int 0))) (.ix (.var 0) (.cst (.int 0)))) (.bop .sub (.ix (.var 2) (.cst (.int 1))) (.ix (.var 0) (.cst (.int 1))))) (.bop .mul (.bop .sub (.ix (.var 1) (.cst (.int 1))) (.ix (.var 0) (.cst (.int 1)))) (.bop .sub (.ix (.var 2) (.cst (.int 0))) (.ix (.var 0) (.cst (.int 0))))))) .nil)
def r_bend : DefR := ⟨⟨("bend", none), "bend", "bend", defArgs (top 11), defBody (top 11), defScope (top 11), [], []⟩, ["one", "other", "third"], ["one", "other", "third"], ⟨3, 3, false, b_bend⟩⟩
theorem ok_bend : DefOk (gOf G) r_bend := ⟨⟨rfl, rfl, rfl, by decide +kernel, rfl, by decide +kernel, by decide +kernel⟩, by decide +kernel, rfl, rfl, rfl, rfl, rfl, fun _ _ _ _ _ _ us hl => match us, hl with | [_, _, _], _ => rfl⟩
def b_threes : Cs := (.cons (.ret (.lc [1, 2, 3] (.tup (.cons (.var 1) (.cons (.var 2) (.cons (.var 3) .nil)))) (.nm 1) (.rng (.cons (.var 0) .nil)) .nil (.cons (.nm 2) (.rng (.cons (.bop .add (.var 1) (.cst (.int 1))) (.cons (.var 0) .nil))) .nil (.cons (.nm 3) (.rng (.cons (.bop .add (.var 2) (.cst (.int 1))) (.cons (.var 0) .nil))) .nil .nil)))) .nil)
def r_threes : DefR := ⟨⟨("threes", none), "threes", "threes", defArgs (top 12), defBody (top 12), defScope (top 12), [], []⟩, ["many", "a", "b", "c"], ["many"], ⟨1, 4, false, b_threes⟩⟩
theorem ok_threes : DefOk (gOf G) r_threes := ⟨⟨rfl, rfl, rfl, by decide +kernel, rfl, by decide +kernel, by decide +kernel⟩, by decide +kernel, rfl, rfl, rfl, rfl, rfl, fun _ _ _ _ _ _ us hl => match us, hl with | [_], _ => rfl⟩
def b_is_field : Cs := (.cons (.ite (.or (.not (.call 2 (.cons (.var 0) (.cons (.cst (.int 1)) (.cons (.glo (Str.ofString "MOST_STAKES") (.int 8)) .nil))))) (.not (.blt .all (.cons (.lc [4] (.call 3 (.cons (.var 4) .nil)) (.nm 4) (.of (.var 0)) .nil .nil) .nil)))) (.cons (.ret (.cst (.bl false))) .nil) .nil) (.cons (.ite (.cmp .lt (.blt .lenset (.cons (.var 0) .nil)) (.blt .len (.cons (.var 0) .nil))) (.cons (.ret (.cst (.bl false))) .nil) .nil) (.cons (.ret (.blt .all (.cons (.lc [1, 2, 3] (.cmp .ne (.call 4 (.cons (.ix (.var 0) (.var 1)) (.cons (.ix (.var 0) (.var 2)) (.cons (.ix (.var 0) (.var 3)) .nil)))) (.cst (.int 0))) (.tup (.cons (.nm 1) (.cons (.nm 2) (.cons (.nm 3) .nil)))) (.of (.call 5 (.cons (.blt .len (.cons (.var 0) .nil)) .nil))) .nil .nil) .nil))) .nil)))
def r_is_field : DefR := ⟨⟨("is_field", none), "is_field", "is_field", defArgs (top 13), defBody (top 13), defScope (top 13), [], []⟩, ["thing", "a", "b", "c", "one"], ["thing"], ⟨1, 5, false, b_is_field⟩⟩
theorem ok_is_field : DefOk (gOf G) r_is_field := ⟨⟨rfl, rfl, rfl, by decide +kernel, rfl, by decide +kernel, by decide +kernel⟩, by decide +kernel, rfl, rfl, rfl, rfl, rfl, fun _ _ _ _ _ _ us hl => match us, hl with | [_], _ => rfl⟩
def b_need_field : Cs := (.cons (.ite (.not (.call 6 (.cons (.var 0) .nil))) (.cons (.ras (Str.ofString "NoField")) .nil) .nil) .nil)
def r_need_field : DefR := ⟨⟨("need_field", none), "need_field", "need_field", defArgs (top 14), defBody (top 14), defScope (top 14), [], []⟩, ["thing"], ["thing"], ⟨1, 1, false, b_need_field⟩⟩
theorem ok_need_field : DefOk (gOf G) r_need_field := ⟨⟨rfl, rfl, rfl, by decide +kernel, rfl, by decide +kernel, by decide +kernel⟩, by decide +kernel, rfl, rfl, rfl, rfl, rfl, fun _ _ _ _ _ _ us hl => match us, hl with | [_], _ => rfl⟩
def b_need_stake : Cs := (.cons (.ite (.or (.not (.call 0 (.cons (.var 1) .nil))) (.cmp .nin (.var 1) (.var 0))) (.cons (.ras (Str.ofString "NoStake")) .nil) .nil) .nil)
def r_need_stake : DefR := ⟨⟨("need_stake", none), "need_stake", "need_stake", defArgs (top 15), defBody (top 15), defScope (top 15), [], []⟩, ["some", "thing"], ["some", "thing"], ⟨2, 2, false, b_need_stake⟩⟩
theorem ok_need_stake : DefOk (gOf G) r_need_stake := ⟨⟨rfl, rfl, rfl, by decide +kernel, rfl, by decide +kernel, by decide +kernel⟩, by decide +kernel, rfl, rfl, rfl, rfl, rfl, fun _ _ _ _ _ _ us hl => match us, hl with | [_, _], _ => rfl⟩
def b_side : Cs := (.cons (.asg (.nm 4) (.call 4 (.cons (.ix (.var 0) (.var 1)) (.cons (.ix (.var 0) (.var 2)) (.cons (.ix (.var 0) (.var 3)) .nil))))) (.cons (.ret (.bop .sub (.blt .int (.cons (.cmp .gt (.var 4) (.cst (.int 0))) .nil)) (.blt .int (.cons (.cmp .lt (.var 4) (.cst (.int 0))) .nil)))) .nil))
def r_side : DefR := ⟨⟨("side", none), "side", "side", defArgs (top 16), defBody (top 16), defScope (top 16), [], []⟩, ["field", "a", "b", "c", "found"], ["field", "a", "b", "c"], ⟨4, 5, false, b_side⟩⟩
theorem ok_side : DefOk (gOf G) r_side := ⟨⟨rfl, rfl, rfl, by decide +kernel, rfl, by decide +kernel, by decide +kernel⟩, by decide +kernel, rfl, rfl, rfl, rfl, rfl, fun _ _ _ _ _ _ us hl => match us, hl with | [_, _, _, _], _ => rfl⟩
def b_turn : Cs := (.cons (.expr (.call 7 (.cons (.var 0) .nil))) (.cons (.asg (.nm 4) (.rng true (.cons (.blt .len (.cons (.var 0) .nil)) .nil))) (.cons (.expr (.call 8 (.cons (.var 4) (.cons (.var 1) .nil)))) (.cons (.expr (.call 8 (.cons (.lc [5] (.var 5) (.nm 5) (.of (.var 4)) (.cons (.cmp .ne (.var 5) (.var 1)) .nil) .nil) (.cons (.var 2) .nil)))) (.cons (.expr (.call 8 (.cons (.lc [5] (.var 5) (.nm 5) (.of (.var 4)) (.cons (.cmp .nin (.var 5) (.tup (.cons (.var 1) (.cons (.var 2) .nil)))) .nil) .nil) (.cons (.var 3) .nil)))) (.cons (.ret (.call 9 (.cons (.var 0) (.cons (.var 1) (.cons (.var 2) (.cons (.var 3) .nil)))))) .nil))))))
def r_turn : DefR := ⟨⟨("turn", none), "turn", "turn", defArgs (top 17), defBody (top 17), defScope (top 17), [], []⟩, ["field", "a", "b", "c", "some", "one"], ["field", "a", "b", "c"], ⟨4, 6, false, b_turn⟩⟩
theorem ok_turn : DefOk (gOf G) r_turn := ⟨⟨rfl, rfl, rfl, by decide +kernel, rfl, by decide +kernel, by decide +kernel⟩, by decide +kernel, rfl, rfl, rfl, rfl, rfl, fun _ _ _ _ _ _ us hl => match us, hl with | [_, _, _, _], _ => rfl⟩
def b_alike : Cs := (.cons (.expr (.call 7 (.cons (.var 0) .nil))) (.cons (.expr (.call 7 (.cons (.var 1) .nil))) (.cons (.ite (.cmp .ne (.blt .len (.cons (.var 0) .nil)) (.blt .len (.cons (.var 1) .nil))) (.cons (.ras (Str.ofString "NoField")) .nil) .nil) (.cons (.fr (.tup (.cons (.nm 2) (.cons (.nm 3) (.cons (.nm 4) .nil)))) (.of (.call 5 (.cons (.blt .len (.cons (.var 0) .nil)) .nil))) (.cons (.ite (.cmp .ne (.call 9 (.cons (.var 0) (.cons (.var 2) (.cons (.var 3) (.cons (.var 4) .nil))))) (.call 9 (.cons (.var 1) (.cons (.var 2) (.cons (.var 3) (.cons (.var 4) .nil)))))) (.cons (.ret (.tup (.cons (.cst (.str (Str.ofString "apart"))) (.cons (.var 2) (.cons (.var 3) (.cons (.var 4) .nil)))))) .nil) .nil) .nil)) (.cons (.ret (.tup (.cons (.cst (.str (Str.ofString "alike"))) .nil))) .nil)))))
def r_alike : DefR := ⟨⟨("alike", none), "alike", "alike", defArgs (top 18), defBody (top 18), defScope (top 18), [], []⟩, ["field", "other", "a", "b", "c"], ["field", "other"], ⟨2, 5, false, b_alike⟩⟩
theorem ok_alike : DefOk (gOf G) r_alike := ⟨⟨rfl, rfl, rfl, by decide +kernel, rfl, by decide +kernel, by decide +kernel⟩, by decide +kernel, rfl, rfl, rfl, rfl, rfl, fun _ _ _ _ _ _ us hl => match us, hl with | [_, _], _ => rfl⟩
def b__law_cell_at : Cs := (.cons (.ite (.cmp .lt (.var 1) (.blt .len (.cons (.var 0) .nil))) (.cons (.ret (.ix (.var 0) (.var 1))) .nil) .nil) (.cons (.ret (.cst (.int 0))) .nil))
def r__law_cell_at : DefR := ⟨⟨("_law_cell_at", none), "_law_cell_at", "_law_cell_at", defArgs (top 20), defBody (top 20), defScope (top 20), [], []⟩, ["_law_script", "_law_k"], ["_law_script", "_law_k"], ⟨2, 2, false, b__law_cell_at⟩⟩
theorem ok__law_cell_at : DefOk (gOf G) r__law_cell_at := ⟨⟨rfl, rfl, rfl, by decide +kernel, rfl, by decide +kernel, by decide +kernel⟩, by decide +kernel, rfl, rfl, rfl, rfl, rfl, fun _ _ _ _ _ _ us hl => match us, hl with | [_, _], _ => rfl⟩
def b__law_pen : Cs := (.cons (.ret (.mut (.lst (.cons (.blt .max (.cons (.cst (.int 0)) (.cons (.bop .sub (.var 0) (.bop .pow (.cst (.int 10)) (.cst (.int 18)))) .nil))) (.cons (.bop .add (.bop .mod (.var 0) (.cst (.int 2147483629))) (.cst (.int 1))) (.cons (.cst (.int 0)) .nil)))))) .nil)
def r__law_pen : DefR := ⟨⟨("_law_pen", none), "_law_pen", "_law_pen", defArgs (top 21), defBody (top 21), defScope (top 21), [], []⟩, ["_law_cell"], ["_law_cell"], ⟨1, 1, true, b__law_pen⟩⟩
theorem ok__law_pen : DefOk (gOf G) r__law_pen := ⟨⟨rfl, rfl, rfl, by decide +kernel, rfl, by decide +kernel, by decide +kernel⟩, by decide +kernel, rfl, rfl, rfl, rfl, rfl, fun _ _ _ _ _ _ us hl => match us, hl with | [_], _ => rfl⟩
def b__law_draw : Cs := (.cons (.ite (.cmp .gt (.ix (.var 0) (.cst (.int 0))) (.cst (.int 0))) (.cons (.asg (.nm 3) (.bop .mod (.ix (.var 0) (.cst (.int 0))) (.var 1))) (.cons (.asg (.sub (.var 0) (.cst (.int 0))) (.bop .fdiv (.ix (.var 0) (.cst (.int 0))) (.var 1))) (.cons (.ret (.var 3)) .nil))) .nil) (.cons (.asg (.sub (.var 0) (.cst (.int 2))) (.bop .add (.ix (.var 0) (.cst (.int 2))) (.cst (.int 1)))) (.cons (.asg (.sub (.var 0) (.cst (.int 1))) (.bop .mod (.bop .add (.bop .add (.bop .mul (.ix (.var 0) (.cst (.int 1))) (.cst (.int 48271))) (.bop .mul (.cst (.int 1009)) (.ix (.var 0) (.cst (.int 2))))) (.cst (.int 7))) (.cst (.int 2147483647)))) (.cons (.asg (.nm 2) (.bop .mod (.bop .add (.bop .add (.bop .mul (.ix (.var 0) (.cst (.int 1))) (.ix (.var 0) (.cst (.int 1)))) (.bop .mul (.cst (.int 69621)) (.ix (.var 0) (.cst (.int 1))))) (.cst (.int 11))) (.cst (.int 2147483629)))) (.cons (.asg (.nm 2) (.bop .mod (.bop .add (.bop .mul (.var 2) (.var 2)) (.bop .mul (.cst (.int 40014)) (.var 2))) (.cst (.int 2147483587)))) (.cons (.ret (.bop .mod (.bop .fdiv (.var 2) (.cst (.int 16))) (.var 1))) .nil))))))
def r__law_draw : DefR := ⟨⟨("_law_draw", none), "_law_draw", "_law_draw", defArgs (top 22), defBody (top 22), defScope (top 22), [], []⟩, ["_law_pen_here", "_law_many", "_law_mixed_here", "_law_found"], ["_law_pen_here", "_law_many"], ⟨2, 4, false, b__law_draw⟩⟩
theorem ok__law_draw : DefOk (gOf G) r__law_draw := ⟨⟨rfl, rfl, rfl, by decide +kernel, rfl, by decide +kernel, by decide +kernel⟩, by decide +kernel, rfl, rfl, rfl, rfl, rfl, fun _ _ _ _ _ _ us hl => match us, hl with | [_, _], _ => rfl⟩
def b__law_same : Cs := (.cons (.ret (.cmp .eq (.blt .repr (.cons (.var 0) .nil)) (.blt .repr (.cons (.var 1) .nil)))) .nil)
def r__law_same : DefR := ⟨⟨("_law_same", none), "_law_same", "_law_same", defArgs (top 23), defBody (top 23), defScope (top 23), [], []⟩, ["_law_found", "_law_due_here"], ["_law_found", "_law_due_here"], ⟨2, 2, false, b__law_same⟩⟩
theorem ok__law_same : DefOk (gOf G) r__law_same := ⟨⟨rfl, rfl, rfl, by decide +kernel, rfl, by decide +kernel, by decide +kernel⟩, by decide +kernel, rfl, rfl, rfl, rfl, rfl, fun _ _ _ _ _ _ us hl => match us, hl with | [_, _], _ => rfl⟩
def b__law_mixed : Cs := (.cons (.par [3, 4] (.cons (.mut (.blt .list (.cons (.var 1) .nil))) (.cons (.mut (.lst .nil)) .nil))) (.cons (.fr (.nm 2) (.rng (.cons (.blt .len (.cons (.var 1) .nil)) .nil)) (.cons (.expr (.app (.var 4) (.ppi (.var 3) (.call 14 (.cons (.var 0) (.cons (.blt .len (.cons (.var 3) .nil)) .nil)))))) .nil)) (.cons (.ret (.var 4)) .nil)))
def r__law_mixed : DefR := ⟨⟨("_law_mixed", none), "_law_mixed", "_law_mixed", defArgs (top 24), defBody (top 24), defScope (top 24), [], []⟩, ["_law_pen_here", "_law_some", "_law_lap", "_law_left", "_law_found"], ["_law_pen_here", "_law_some"], ⟨2, 5, false, b__law_mixed⟩⟩
theorem ok__law_mixed : DefOk (gOf G) r__law_mixed := ⟨⟨rfl, rfl, rfl, by decide +kernel, rfl, by decide +kernel, by decide +kernel⟩, by decide +kernel, rfl, rfl, rfl, rfl, rfl, fun _ _ _ _ _ _ us hl => match us, hl with | [_, _], _ => rfl⟩
def b__law_bend : Cs := (.cons (.par [3, 4] (.cons (.bop .sub (.ix (.var 1) (.cst (.int 0))) (.ix (.var 0) (.cst (.int 0)))) (.cons (.bop .sub (.ix (.var 1) (.cst (.int 1))) (.ix (.var 0) (.cst (.int 1)))) .nil))) (.cons (.ret (.bop .sub (.bop .mul (.var 3) (.bop .sub (.ix (.var 2) (.cst (.int 1))) (.ix (.var 0) (.cst (.int 1))))) (.bop .mul (.var 4) (.bop .sub (.ix (.var 2) (.cst (.int 0))) (.ix (.var 0) (.cst (.int 0))))))) .nil))
def r__law_bend : DefR := ⟨⟨("_law_bend", none), "_law_bend", "_law_bend", defArgs (top 25), defBody (top 25), defScope (top 25), [], []⟩, ["_law_one", "_law_other", "_law_third", "_law_across", "_law_up"], ["_law_one", "_law_other", "_law_third"], ⟨3, 5, false, b__law_bend⟩⟩
theorem ok__law_bend : DefOk (gOf G) r__law_bend := ⟨⟨rfl, rfl, rfl, by decide +kernel, rfl, by decide +kernel, by decide +kernel⟩, by decide +kernel, rfl, rfl, rfl, rfl, rfl, fun _ _ _ _ _ _ us hl => match us, hl with | [_, _, _], _ => rfl⟩
def b__law_is_free : Cs := (.cons (.ite (.cmp .isin (.var 1) (.var 0)) (.cons (.ret (.cst (.bl false))) .nil) .nil) (.cons (.fr (.tup (.cons (.nm 2) (.cons (.nm 3) .nil))) (.enu (.var 0)) (.cons (.ite (.cmp .ne (.lc [4] (.cst (.int 1)) (.nm 4) (.of (.sl (.var 0) (.cons (.bop .add (.var 2) (.cst (.int 1))) .nil) .nil)) (.cons (.cmp .eq (.call 17 (.cons (.var 3) (.cons (.var 4) (.cons (.var 1) .nil)))) (.cst (.int 0))) .nil) .nil) (.lst .nil)) (.cons (.ret (.cst (.bl false))) .nil) .nil) .nil)) (.cons (.ret (.cst (.bl true))) .nil)))
def r__law_is_free : DefR := ⟨⟨("_law_is_free", none), "_law_is_free", "_law_is_free", defArgs (top 26), defBody (top 26), defScope (top 26), [], []⟩, ["_law_places", "_law_place", "_law_at", "_law_one", "_law_other"], ["_law_places", "_law_place"], ⟨2, 5, false, b__law_is_free⟩⟩
theorem ok__law_is_free : DefOk (gOf G) r__law_is_free := ⟨⟨rfl, rfl, rfl, by decide +kernel, rfl, by decide +kernel, by decide +kernel⟩, by decide +kernel, rfl, rfl, rfl, rfl, rfl, fun _ _ _ _ _ _ us hl => match us, hl with | [_, _], _ => rfl⟩
def b__law_field : Cs := (.cons (.par [3, 4] (.cons (.ix (.lst (.cons (.cst (.int 3)) (.cons (.cst (.int 6)) (.cons (.cst (.int 12)) (.cons (.cst (.int 40)) .nil))))) (.call 14 (.cons (.var 0) (.cons (.cst (.int 4)) .nil)))) (.cons (.bop .add (.cst (.int 1)) (.call 14 (.cons (.var 0) (.cons (.var 1) .nil)))) .nil))) (.cons (.par [4, 5] (.cons (.ix (.lst (.cons (.var 4) (.cons (.var 1) .nil))) (.call 14 (.cons (.var 0) (.cons (.cst (.int 2)) .nil)))) (.cons (.tup .nil) .nil))) (.cons (.fr (.nm 2) (.rng (.cons (.bop .mul (.cst (.int 3)) (.var 1)) .nil)) (.cons (.asg (.nm 6) (.tup (.cons (.call 14 (.cons (.var 0) (.cons (.bop .add (.var 3) (.cst (.int 1))) .nil))) (.cons (.call 14 (.cons (.var 0) (.cons (.bop .add (.var 3) (.cst (.int 1))) .nil))) .nil)))) (.cons (.ite (.cmp .eq (.call 14 (.cons (.var 0) (.cons (.cst (.int 5)) .nil))) (.cst (.int 0))) (.cons (.asg (.nm 6) (.tup (.cons (.ix (.var 6) (.cst (.int 0))) (.cons (.ix (.lst (.cons (.cst (.int 0)) (.cons (.var 3) .nil))) (.call 14 (.cons (.var 0) (.cons (.cst (.int 2)) .nil)))) .nil)))) .nil) .nil) (.cons (.ite (.and (.cmp .lt (.blt .len (.cons (.var 5) .nil)) (.var 4)) (.call 18 (.cons (.var 5) (.cons (.var 6) .nil)))) (.cons (.asg (.nm 5) (.bop .add (.var 5) (.tup (.cons (.var 6) .nil)))) .nil) .nil) .nil)))) (.cons (.ret (.var 5)) .nil))))
def r__law_field : DefR := ⟨⟨("_law_field", none), "_law_field", "_law_field", defArgs (top 27), defBody (top 27), defScope (top 27), [], []⟩, ["_law_pen_here", "_law_most", "_law_lap", "_law_wide", "_law_many", "_law_found", "_law_place"], ["_law_pen_here", "_law_most"], ⟨2, 7, false, b__law_field⟩⟩
theorem ok__law_field : DefOk (gOf G) r__law_field := ⟨⟨rfl, rfl, rfl, by decide +kernel, rfl, by decide +kernel, by decide +kernel⟩, by decide +kernel, rfl, rfl, rfl, rfl, rfl, fun _ _ _ _ _ _ us hl => match us, hl with | [_, _], _ => rfl⟩
def b__law_side : Cs := (.cons (.asg (.nm 4) (.call 17 (.cons (.ix (.var 0) (.var 1)) (.cons (.ix (.var 0) (.var 2)) (.cons (.ix (.var 0) (.var 3)) .nil))))) (.cons (.ret (.bop .sub (.blt .int (.cons (.cmp .gt (.var 4) (.cst (.int 0))) .nil)) (.blt .int (.cons (.cmp .lt (.var 4) (.cst (.int 0))) .nil)))) .nil))
def r__law_side : DefR := ⟨⟨("_law_side", none), "_law_side", "_law_side", defArgs (top 28), defBody (top 28), defScope (top 28), [], []⟩, ["_law_field_here", "_law_a", "_law_b", "_law_c", "_law_found"], ["_law_field_here", "_law_a", "_law_b", "_law_c"], ⟨4, 5, false, b__law_side⟩⟩
theorem ok__law_side : DefOk (gOf G) r__law_side := ⟨⟨rfl, rfl, rfl, by decide +kernel, rfl, by decide +kernel, by decide +kernel⟩, by decide +kernel, rfl, rfl, rfl, rfl, rfl, fun _ _ _ _ _ _ us hl => match us, hl with | [_, _, _, _], _ => rfl⟩
def b__law_threes : Cs := (.cons (.asg (.nm 1) (.lst (.cons (.tup .nil) .nil))) (.cons (.fr (.nm 2) (.of (.var 0)) (.cons (.asg (.nm 1) (.bop .add (.var 1) (.lc [3] (.bop .add (.var 3) (.tup (.cons (.var 2) .nil))) (.nm 3) (.of (.var 1)) (.cons (.cmp .lt (.blt .len (.cons (.var 3) .nil)) (.cst (.int 3))) .nil) .nil))) .nil)) (.cons (.ret (.blt .sorted (.cons (.lc [3] (.var 3) (.nm 3) (.of (.var 1)) (.cons (.cmp .eq (.blt .len (.cons (.var 3) .nil)) (.cst (.int 3))) .nil) .nil) .nil))) .nil)))
def r__law_threes : DefR := ⟨⟨("_law_threes", none), "_law_threes", "_law_threes", defArgs (top 29), defBody (top 29), defScope (top 29), [], []⟩, ["_law_some", "_law_found", "_law_stake", "_law_part"], ["_law_some"], ⟨1, 4, false, b__law_threes⟩⟩
theorem ok__law_threes : DefOk (gOf G) r__law_threes := ⟨⟨rfl, rfl, rfl, by decide +kernel, rfl, by decide +kernel, by decide +kernel⟩, by decide +kernel, rfl, rfl, rfl, rfl, rfl, fun _ _ _ _ _ _ us hl => match us, hl with | [_], _ => rfl⟩
def b__law_due : Cs := (.cons (.fr (.nm 2) (.of (.call 21 (.cons (.rng true (.cons (.blt .len (.cons (.var 0) .nil)) .nil)) .nil))) (.cons (.asg (.tup (.cons (.nm 3) (.cons (.nm 4) (.cons (.nm 5) .nil)))) (.var 2)) (.cons (.ite (.cmp .ne (.call 20 (.cons (.var 0) (.cons (.var 3) (.cons (.var 4) (.cons (.var 5) .nil))))) (.call 20 (.cons (.var 1) (.cons (.var 3) (.cons (.var 4) (.cons (.var 5) .nil)))))) (.cons (.ret (.tup (.cons (.cst (.str (Str.ofString "apart"))) (.cons (.var 3) (.cons (.var 4) (.cons (.var 5) .nil)))))) .nil) .nil) .nil))) (.cons (.ret (.tup (.cons (.cst (.str (Str.ofString "alike"))) .nil))) .nil))
def r__law_due : DefR := ⟨⟨("_law_due", none), "_law_due", "_law_due", defArgs (top 30), defBody (top 30), defScope (top 30), [], []⟩, ["_law_field_here", "_law_its", "_law_three", "_law_a", "_law_b", "_law_c"], ["_law_field_here", "_law_its"], ⟨2, 6, false, b__law_due⟩⟩
theorem ok__law_due : DefOk (gOf G) r__law_due := ⟨⟨rfl, rfl, rfl, by decide +kernel, rfl, by decide +kernel, by decide +kernel⟩, by decide +kernel, rfl, rfl, rfl, rfl, rfl, fun _ _ _ _ _ _ us hl => match us, hl with | [_, _], _ => rfl⟩
def b__law_others : Cs := (.cons (.par [5, 6] (.cons (.mut (.lst (.cons (.var 1) (.cons (.blt .tuple (.cons (.lc [7, 8] (.tup (.cons (.bop .sub (.cst (.int 40)) (.var 7)) (.cons (.var 8) .nil))) (.tup (.cons (.nm 7) (.cons (.nm 8) .nil))) (.of (.var 1)) .nil .nil) .nil)) .nil)))) (.cons (.blt .max (.cons (.lc [9] (.blt .max (.cons (.var 9) .nil)) (.nm 9) (.of (.var 1)) .nil .nil) .nil)) .nil))) (.cons (.ite (.cmp .le (.bop .mul (.cst (.int 2)) (.var 6)) (.cst (.int 40))) (.cons (.expr (.app (.var 5) (.blt .tuple (.cons (.lc [7, 8] (.tup (.cons (.bop .mul (.cst (.int 2)) (.var 7)) (.cons (.bop .mul (.cst (.int 2)) (.var 8)) .nil))) (.tup (.cons (.nm 7) (.cons (.nm 8) .nil))) (.of (.var 1)) .nil .nil) .nil)))) (.cons (.expr (.app (.var 5) (.blt .tuple (.cons (.lc [7, 8] (.tup (.cons (.var 7) (.cons (.bop .add (.var 7) (.var 8)) .nil))) (.tup (.cons (.nm 7) (.cons (.nm 8) .nil))) (.of (.var 1)) .nil .nil) .nil)))) .nil)) .nil) (.cons (.asg (.nm 2) (.call 14 (.cons (.var 0) (.cons (.blt .len (.cons (.var 1) .nil)) .nil)))) (.cons (.asg (.tup (.cons (.nm 7) (.cons (.nm 8) .nil))) (.ix (.var 1) (.var 2))) (.cons (.fr (.nm 3) (.of (.tup (.cons (.tup (.cons (.bop .add (.var 7) (.cst (.int 1))) (.cons (.var 8) .nil))) (.cons (.tup (.cons (.bop .sub (.var 7) (.cst (.int 1))) (.cons (.var 8) .nil))) (.cons (.tup (.cons (.var 7) (.cons (.bop .add (.var 8) (.cst (.int 1))) .nil))) (.cons (.tup (.cons (.var 7) (.cons (.bop .sub (.var 8) (.cst (.int 1))) .nil))) (.cons (.tup (.cons (.call 14 (.cons (.var 0) (.cons (.cst (.int 41)) .nil))) (.cons (.call 14 (.cons (.var 0) (.cons (.cst (.int 41)) .nil))) .nil))) .nil))))))) (.cons (.ite (.and (.cmp .le (.cst (.int 0)) (.blt .min (.cons (.var 3) .nil))) (.and (.cmp .le (.blt .max (.cons (.var 3) .nil)) (.cst (.int 40))) (.call 18 (.cons (.bop .add (.sl (.var 1) .nil (.cons (.var 2) .nil)) (.sl (.var 1) (.cons (.bop .add (.var 2) (.cst (.int 1))) .nil) .nil)) (.cons (.var 3) .nil))))) (.cons (.expr (.app (.var 5) (.bop .add (.bop .add (.sl (.var 1) .nil (.cons (.var 2) .nil)) (.tup (.cons (.var 3) .nil))) (.sl (.var 1) (.cons (.bop .add (.var 2) (.cst (.int 1))) .nil) .nil)))) .nil) .nil) .nil)) (.cons (.asg (.nm 4) (.call 19 (.cons (.var 0) (.cons (.blt .len (.cons (.var 1) .nil)) .nil)))) (.cons (.ret (.bop .add (.var 5) (.bop .mul (.lst (.cons (.var 4) .nil)) (.blt .int (.cons (.cmp .eq (.blt .len (.cons (.var 4) .nil)) (.blt .len (.cons (.var 1) .nil))) .nil))))) .nil)))))))
def r__law_others : DefR := ⟨⟨("_law_others", none), "_law_others", "_law_others", defArgs (top 31), defBody (top 31), defScope (top 31), [], []⟩, ["_law_pen_here", "_law_field_here", "_law_at", "_law_near", "_law_drawn", "_law_found", "_law_top", "_law_x", "_law_y", "_law_place"], ["_law_pen_here", "_law_field_here"], ⟨2, 10, false, b__law_others⟩⟩
theorem ok__law_others : DefOk (gOf G) r__law_others := ⟨⟨rfl, rfl, rfl, by decide +kernel, rfl, by decide +kernel, by decide +kernel⟩, by decide +kernel, rfl, rfl, rfl, rfl, rfl, fun _ _ _ _ _ _ us hl => match us, hl with | [_, _], _ => rfl⟩
def b_law : Cs := (.cons (.fr (.nm 1) (.rng (.cons (.blt .max (.cons (.cst (.int 1)) (.cons (.blt .min (.cons (.blt .len (.cons (.var 0) .nil)) (.cons (.cst (.int 3)) .nil))) .nil))) .nil)) (.cons (.asg (.nm 2) (.call 13 (.cons (.call 12 (.cons (.var 0) (.cons (.var 1) .nil))) .nil))) (.cons (.fr (.nm 3) (.rng (.cons (.cst (.int 3)) .nil)) (.cons (.asg (.nm 4) (.call 19 (.cons (.var 2) (.cons (.cst (.int 8)) .nil)))) (.cons (.asg (.nm 5) (.blt .repr (.cons (.var 4) .nil))) (.cons (.fr (.nm 6) (.of (.call 21 (.cons (.rng true (.cons (.blt .len (.cons (.var 4) .nil)) .nil)) .nil))) (.cons (.asg (.tup (.cons (.nm 10) (.cons (.nm 11) (.cons (.nm 12) .nil)))) (.call 16 (.cons (.var 2) (.cons (.var 6) .nil)))) (.cons (.asg (.nm 8) (.call 20 (.cons (.var 4) (.cons (.var 10) (.cons (.var 11) (.cons (.var 12) .nil)))))) (.cons (.asg (.nm 9) (.lst (.cons (.call 10 (.cons (.var 4) (.cons (.var 10) (.cons (.var 11) (.cons (.var 12) .nil))))) (.cons (.call 10 (.cons (.var 4) (.cons (.var 11) (.cons (.var 10) (.cons (.var 12) .nil))))) (.cons (.call 10 (.cons (.var 4) (.cons (.var 12) (.cons (.var 10) (.cons (.var 11) .nil))))) .nil))))) (.cons (.ite (.not (.call 15 (.cons (.var 9) (.cons (.lst (.cons (.var 8) (.cons (.bop .sub (.cst (.int 0)) (.var 8)) (.cons (.var 8) .nil)))) .nil)))) (.cons (.ret (.cst (.bl false))) .nil) .nil) .nil))))) (.cons (.fr (.nm 7) (.of (.call 23 (.cons (.var 2) (.cons (.var 4) .nil)))) (.cons (.par [13, 8] (.cons (.blt .repr (.cons (.var 7) .nil)) (.cons (.call 22 (.cons (.var 4) (.cons (.var 7) .nil))) .nil))) (.cons (.asg (.nm 9) (.lc [14] (.call 11 (.cons (.var 4) (.cons (.var 7) .nil))) (.nm 14) (.rng (.cons (.cst (.int 2)) .nil)) .nil .nil)) (.cons (.ite (.or (.not (.call 15 (.cons (.var 9) (.cons (.lst (.cons (.var 8) (.cons (.var 8) .nil))) .nil)))) (.cmp .ne (.blt .repr (.cons (.var 7) .nil)) (.var 13))) (.cons (.ret (.cst (.bl false))) .nil) .nil) .nil)))) (.cons (.ite (.cmp .ne (.blt .repr (.cons (.var 4) .nil)) (.var 5)) (.cons (.ret (.cst (.bl false))) .nil) .nil) .nil)))))) .nil))) (.cons (.ret (.cst (.bl true))) .nil))
def r_law : DefR := ⟨⟨("law", none), "law", "law", defArgs (top 32), defBody (top 32), defScope (top 32), [], []⟩, ["_law_script", "_law_k", "_law_pen_here", "_law_lap", "_law_field_here", "_law_kept", "_law_three", "_law_its", "_law_due_here", "_law_told", "_law_a", "_law_b", "_law_c", "_law_stood", "_law_again"], ["_law_script"], ⟨1, 15, false, b_law⟩⟩
theorem ok_law : DefOk (gOf G) r_law := ⟨⟨rfl, rfl, rfl, by decide +kernel, rfl, by decide +kernel, by decide +kernel⟩, by decide +kernel, rfl, rfl, rfl, rfl, rfl, fun _ _ _ _ _ _ us hl => match us, hl with | [_], _ => rfl⟩
def rs0 : List DefR := [r_is_whole, r_is_among, r_are_some, r_is_place, r_bend, r_threes, r_is_field, r_need_field, r_need_stake, r_side, r_turn, r_alike, r__law_cell_at, r__law_pen, r__law_draw, r__law_same, r__law_mixed, r__law_bend, r__law_is_free, r__law_field, r__law_side, r__law_threes, r__law_due, r__law_others, r_law]
def rs : List DefR := rs0
theorem ok_all0 : ∀ r ∈ rs0, DefOk (gOf G) r := by
  intro r h
  simp only [rs0, List.mem_cons, List.not_mem_nil, or_false] at h
  rcases h with rfl | rfl | rfl | rfl | rfl | rfl | rfl | rfl | rfl | rfl | rfl | rfl | rfl | rfl | rfl | rfl | rfl | rfl | rfl | rfl | rfl | rfl | rfl | rfl | rfl
  · exact ok_is_whole
  · exact ok_is_among
  · exact ok_are_some
  · exact ok_is_place
  · exact ok_bend
  · exact ok_threes
  · exact ok_is_field
  · exact ok_need_field
  · exact ok_need_stake
  · exact ok_side
  · exact ok_turn
  · exact ok_alike
  · exact ok__law_cell_at
  · exact ok__law_pen
  · exact ok__law_draw
  · exact ok__law_same
  · exact ok__law_mixed
  · exact ok__law_bend
  · exact ok__law_is_free
  · exact ok__law_field
  · exact ok__law_side
  · exact ok__law_threes
  · exact ok__law_due
  · exact ok__law_others
  · exact ok_law
theorem ok_all : ∀ r ∈ rs, DefOk (gOf G) r := by
  intro r h
  simp only [rs, List.mem_append] at h
  skip
  · exact ok_all0 r h
def loose0 : List Str := ["__name__", "StakeError", "NoField", "NoStake", "MOST_STAKES", "FARTHEST", "is_whole", "is_among", "are_some", "is_place", "bend", "threes", "is_field", "need_field", "need_stake", "side", "turn", "alike", "_law_cell_at", "_law_pen", "_law_draw", "_law_same", "_law_mixed", "_law_bend", "_law_is_free", "_law_field", "_law_side", "_law_threes", "_law_due", "_law_others"]
abbrev loose : List Str := loose0
abbrev R : PySem.W.OpenRow := PySem.W.OpenLaw.row PySem.Challenge.rw_ropestakes_k03_turns_and_fields_alike
abbrev hk : PySem.W.Hook := hookR 3 (fasOf G) (rs.map (·.d))
def ob (s : PySem.W.SharedT) : He.AlD := obsRG 3 (fasOf G) (rs.map (·.d)) (HandSHeadRun.getT s)
theorem ob_eq (s : PySem.W.SharedT) : ob s = hk.obs s.abs := obsRG_eq (HandSHeadRun.getT_eq s)
theorem run_top (w : World) : HandSHeadRun.RunEq R (PySem.W.view R.prog [32]) hk ob 2000 loose w := by
  intro os
  kernel_rfl
end Jk03
namespace Jk03
open Rs PySem
theorem tab_eq : rs.map (·.fn) = Lk03.tab := rfl
theorem says : Says (rs.map (·.fn)) (fun _ _ => none) 60 24 63 := by
  intro ns hn _
  rw [tab_eq]
  obtain ⟨h1, h2⟩ := k03_good ns
  obtain ⟨S, h⟩ := Lk03.r_lk03 (sub := fun _ _ => none) (k := 53) h1
  rw [h2] at h
  exact ⟨S, h⟩
end Jk03
open PySem PySem.W PySem.Calls PyProof.Rows
theorem PySem.Challenge.cw_ropestakes_k03_turns_and_fields_alike_holds : PySem.Challenge.rw_ropestakes_k03_turns_and_fields_alike.Holds := by
  w_on; o_law
  refine HandSHeadRun.head_any (r := OpenLaw.row PySem.Challenge.rw_ropestakes_k03_turns_and_fields_alike) (q := view (OpenLaw.row PySem.Challenge.rw_ropestakes_k03_turns_and_fields_alike).prog [32]) (H := Jk03.hk) (ob := Jk03.ob) (M := 2000) (loose := Jk03.loose) (d := HandSHeadRun.topDef (OpenLaw.row PySem.Challenge.rw_ropestakes_k03_turns_and_fields_alike).prog 32) (kwd := []) Jk03.ob_eq
    (by kernel_rfl) (fun s => by kernel_rfl) Jk03.run_top (by kernel_rfl) (by kernel_rfl) (by kernel_rfl) (by rfl) (by first | assumption | decide +kernel) (by decide +kernel) ⟨rfl, rfl, rfl, rfl, rfl, by decide +kernel⟩ ?hw ?hc
  case hw => w_witness2
  case hc =>
    refine Rs.walk_G (l := PySem.Challenge.rw_ropestakes_k03_turns_and_fields_alike) (n := 63) (k := 60) (x := "_law_script") rfl (by decide) (by kernel_rfl) ⟨rfl, by decide, by decide⟩ ?F
    intro w mg fa h Y hG hmg0
    have hmg : mg (Jk03.r_law.d.name) = some (.ref fa) := by
      have e : (HandSHeadRun.topDef (OpenLaw.row PySem.Challenge.rw_ropestakes_k03_turns_and_fields_alike).prog 32).name = ("law" : PySem.Str) := by kernel_rfl
      rw [e] at hmg0
      exact hmg0
    exact Rs.table_F (r := Jk03.r_law) Jk03.ok_all (by decide +kernel) (by rfl) (by rfl) (by rfl) Jk03.says w mg fa h Y hG hmg
end
