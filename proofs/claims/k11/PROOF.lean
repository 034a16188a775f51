import PyProof.Rows.All
import Wide.All
import OpenK.AllK
import Wide.FinOn
import KE.KStateDown
import HandS.Base
import HandS.Call
import HandS.Ends
import HandS.More
import HandS.Words
import HandS.WordsExc
import HandS.Defaults
import HandS.Head0
import HandS.Head1
import HandS.Head2
import HandS.HeadEnd
import HandS.HeadHook1
import HandS.HeadHook2
import HandS.ForMost
import HandS.Deep
import HandS.TupLe
import HandS.SetFor
import KE.LtSeq
import HandS.SortInts
import HandS.Style
import HandS.Flow
import HandS.SortRule
import KE.KSortTupAny
import HandS.List
import HandS.IsInst
import HandS.Conv
import HandS.CallSlots
import HandS.Exc
import HandS.ExcIs
import HandS.ExcValue
import HandS.NamedTupGet
import HandS.SlotsOwn
import HandS.OwnIter
import HandS.Strs
import HandS.Zip
import HandS.ExcOwn
import PySem.Challenge.RW_toplists_k11_whole_readers
set_option Elab.async false
set_option linter.all false
set_option maxRecDepth 100000
set_option Elab.async false
set_option linter.all false
/-! The core: plain data D, the IR, its evaluator. -/
namespace Tv
open PySem

inductive D where
  | non | bl (b : Bool) | int (i : Int) | str (s : Str)
  | lst (xs : List D) | tup (xs : List D)
  | exc (c : Nat) | cell (n : Nat)
  | scr (ns : List Int)
  | ins (fs : List D)
  deriving Inhabited

inductive Cl where
  | lst (xs : List D)
  | ins (c : Nat) (fs : List D)

abbrev G := List Cl
inductive Res (α : Type) where
  | ok (a : α) (g : G) | err (c : Nat) (g : G) | stuck
abbrev Fn := List D → G → Res D
abbrev Env := List (Option D)

@[simp] def Res.bind {α β : Type} (m : Res α) (f : α → G → Res β) : Res β := match m with
  | .ok a g => f a g
  | .err c g => .err c g
  | .stuck => .stuck

def gt : Env → Nat → Option D
  | [], _ => none
  | x :: _, 0 => x
  | _ :: r, n + 1 => gt r n
def st : Env → Nat → Option D → Env
  | [], _, _ => []
  | _ :: r, 0, v => v :: r
  | x :: r, n + 1, v => x :: st r n v

def cap : Nat := 1000000
def mkL (xs : List D) (g : G) : Res D := if xs.length ≤ cap then .ok (.lst xs) g else .stuck

/-! ### data -/
mutual
def eqD : D → D → Bool
  | .non, .non => true
  | .bl a, .bl b => a == b
  | .bl a, .int j => (if a then 1 else 0) == j
  | .int i, .bl b => i == (if b then 1 else 0)
  | .int i, .int j => i == j
  | .str x, .str y => x == y
  | .lst xs, .lst ys => eqL xs ys
  | .tup xs, .tup ys => eqL xs ys
  | _, _ => false
def eqL : List D → List D → Bool
  | [], [] => true
  | x :: xs, y :: ys => eqD x y && eqL xs ys
  | _, _ => false
end
mutual
/-- plain: no exceptions, no cells; at most n deep -/
def pln : Nat → D → Bool
  | n + 1, .lst xs => plnL n xs
  | n + 1, .tup xs => plnL n xs
  | 0, .lst _ => false
  | 0, .tup _ => false
  | _, .exc _ => false
  | _, .cell _ => false
  | _, .scr _ => false
  | _, .ins _ => false
  | _, .str s => s.cps.all (· < 0x110000)
  | _, _ => true
def plnL : Nat → List D → Bool
  | _, [] => true
  | n, x :: xs => pln n x && plnL n xs
end
mutual
/-- no list within -/
def nolist : D → Bool
  | .lst _ => false
  | .tup xs => nolistL xs
  | .ins xs => nolistL xs
  | _ => true
def nolistL : List D → Bool
  | [] => true
  | x :: xs => nolist x && nolistL xs
end
def scal : D → Bool
  | .scr _ => false
  | .ins _ => false
  | .lst _ => false
  | .tup _ => false
  | .cell _ => false
  | .exc _ => false
  | _ => true

/-- order: of getIs, of texts -/
def ltD : D → D → Option Bool
  | .int i, .int j => some (decide (i < j))
  | .str x, .str y => some (decide (x.cps.toList < y.cps.toList))
  | _, _ => none

def getIs : List D → Option (List Int)
  | [] => some []
  | .int i :: r => (getIs r).map (i :: ·)
  | _ :: _ => none
/-- which list of whole numbers is the less -/
def ltIs : List Int → List Int → Bool
  | [], [] => false
  | [], _ :: _ => true
  | _ :: _, [] => false
  | x :: r, y :: t => if x = y then ltIs r t else decide (x < y)
def ltL : D → D → Option Bool
  | .lst xs, .lst ys => match getIs xs, getIs ys with
    | some ns, some ms => some (ltIs ns ms)
    | _, _ => none
  | _, _ => none
def isNon : D → Bool | .non => true | _ => false
/-- what a cell holds -/
def dr (g : G) : D → D
  | .cell n => match g[n]? with
    | some (.lst xs) => .lst xs
    | _ => .cell n
  | d => d

inductive Bop | add | sub | mul | fdiv | mod | pow
inductive Cop | eq | ne | lt | le | gt | ge | isin | notin | isb | nisb
inductive Ty | int | bool | list | str
inductive Bi1 | len | sorted | sum | min | max | all | any | list | tuple | str | int | abs | lenset | srtset
inductive Bi2 | min | max
inductive Me | index | count | join | split
inductive Tg | one (i : Nat) | tup (is : List Nat)

/-- a comprehension lets no error out -/
def nox {α : Type} (m : Res α) : Res α := match m with
  | .err _ _ => .stuck
  | m => m
def okR (o : Option D) (g : G) : Res D := match o with
  | some d => .ok d g
  | none => .stuck

def binD : Bop → D → D → Option D
  | .add, .int i, .int j => some (.int (i + j))
  | .add, .lst xs, .lst ys => if xs.length + ys.length ≤ cap then some (.lst (xs ++ ys)) else none
  | .add, .str x, .str y => if x.length + y.length ≤ cap then some (.str (x ++ y)) else none
  | .sub, .int i, .int j => some (.int (i - j))
  | .mul, .int i, .int j => if (-(2 ^ 64) < i ∧ i < 2 ^ 64) ∨ (-(2 ^ 64) < j ∧ j < 2 ^ 64) then some (.int (i * j)) else none
  | .mul, .lst xs, .int k => if -1000 < k ∧ k < 1000 ∧ xs.length ≤ 1000 then some (.lst (List.replicate k.toNat xs).flatten) else none
  | .fdiv, .int i, .int j => if 0 < j ∧ j < 1073741824 then some (.int (i / j)) else none
  | .mod, .int i, .int j => if 0 < j then some (.int (i % j)) else none
  | .pow, .int i, .int j => if 0 ≤ j ∧ j ≤ 1000 ∧ i.natAbs < 2 ^ 64 then some (.int (i ^ j.toNat)) else none
  | _, _, _ => none

def strHas (x y : Str) : Bool := !(Builtin.Str.occurrences y x 0 y.length 1).isEmpty
def inD (a b : D) : Option Bool := match b with
  | .lst ys => if pln 8 a && plnL 8 ys then some (ys.any fun y => eqD y a) else none
  | .str y => match a with
    | .str x => some (strHas x y)
    | _ => none
  | _ => none
def neD (a b : D) : Option Bool := match a, b with
  | .scr ns, .lst [] => some (!ns.isEmpty)
  | a, b => if pln 8 a && pln 8 b then some (!eqD a b) else none
def isbD : D → D → Option Bool
  | .bl a, .bl b => some (decide (a = b))
  | _, _ => none
def cmpD : Cop → D → D → Option Bool
  | .isb, a, b => isbD a b
  | .nisb, a, b => (isbD a b).map (!·)
  | .eq, a, b => if pln 8 a && pln 8 b then some (eqD a b) else none
  | .ne, a, b => neD a b
  | .lt, a, b => match ltD a b with
    | some c => some c
    | none => ltL a b
  | .gt, a, b => ltD b a
  | .le, a, b => (ltD b a).map (!·)
  | .ge, a, b => (ltD a b).map (!·)
  | .isin, a, b => inD a b
  | .notin, a, b => (inD a b).map (!·)
def okB (o : Option Bool) (g : G) : Res D := match o with
  | some b => .ok (.bl b) g
  | none => .stuck

/-- an index, from the end where it is negative -/
def atD (xs : List D) (i : Int) : Option D := L2.atI xs i
/-- xs[lo:hi] -/
def cutD {α : Type} (xs : List α) (lo hi : Option Int) : List α :=
  (xs.drop (HT.sIx xs.length 0 lo)).take (HT.sIx xs.length xs.length hi - HT.sIx xs.length 0 lo)

def subD (a : D) (k : Int) : Option D := match a with
  | .lst xs => L2.atI xs k
  | .tup xs => L2.atI xs k
  | .str s => if s.length ≤ cap then (L2.atI s.cps.toList k).map fun c => .str ⟨#[c]⟩ else none
  | _ => none
def cutE (a : D) (lo hi : Option Int) : Option D := match a with
  | .lst xs => some (.lst (cutD xs lo hi))
  | .str s => if s.length ≤ cap then some (.str ⟨(cutD s.cps.toList lo hi).toArray⟩) else none
  | _ => none
def getSs : List D → Option (List Str)
  | [] => some []
  | .str s :: r => (getSs r).map (s :: ·)
  | _ :: _ => none
def getBs : List D → Option (List Bool)
  | [] => some []
  | .bl b :: r => (getBs r).map (b :: ·)
  | _ :: _ => none

def insI (x : Int) : List Int → List Int
  | [] => [x]
  | y :: r => if x ≤ y then x :: y :: r else y :: insI x r
def sortI : List Int → List Int
  | [] => []
  | x :: r => insI x (sortI r)
def leS (x y : Str) : Bool := !decide (y.cps.toList < x.cps.toList)
def insS (x : Str) : List Str → List Str
  | [] => [x]
  | y :: r => if leS x y then x :: y :: r else y :: insS x r
def sortS : List Str → List Str
  | [] => []
  | x :: r => insS x (sortS r)
def minI : List Int → Option Int
  | [] => none
  | x :: r => match minI r with
    | none => some x
    | some m => some (if x ≤ m then x else m)
def minS : List Str → Option Str
  | [] => none
  | x :: r => match minS r with
    | none => some x
    | some m => some (if leS x m then x else m)
def maxI : List Int → Option Int
  | [] => none
  | x :: r => match maxI r with
    | none => some x
    | some m => some (if m ≤ x then x else m)
/-- tuples of whole numbers and texts: which is which -/
def shI : D → Option Bool
  | .int _ => some false
  | .str _ => some true
  | _ => none
def shOf : List D → Option (List Bool)
  | [] => some []
  | x :: r => match shI x, shOf r with
    | some b, some bs => some (b :: bs)
    | _, _ => none
def isSh (sh : List Bool) : D → Bool
  | .tup c => decide (shOf c = some sh)
  | _ => false
def tupsOk : List D → Option (List Bool)
  | .tup a :: r => match shOf a with
    | some (b :: bs) => if r.all (isSh (b :: bs)) then some (b :: bs) else none
    | _ => none
  | _ => none
def itLt : D → D → Bool
  | .int a, .int b => decide (a < b)
  | .int _, .str _ => true
  | .str x, .str y => decide (x.cps.toList < y.cps.toList)
  | _, _ => false
def lexD : List D → List D → Bool
  | [], [] => false
  | [], _ :: _ => true
  | _ :: _, [] => false
  | x :: r, y :: t => itLt x y || (!itLt y x && lexD r t)
def ltTup : D → D → Bool
  | .tup a, .tup b => lexD a b
  | _, _ => false
def insT (x : D) : List D → List D
  | [] => [x]
  | y :: r => if ltTup y x then y :: insT x r else x :: y :: r
def sortT : List D → List D
  | [] => []
  | x :: r => insT x (sortT r)
def sortD (xs : List D) : Option D := match getIs xs with
  | some ns => some (.lst ((sortI ns).map .int))
  | none => match getSs xs with
    | some ss => if ss.length < 64 then some (.lst ((sortS ss).map .str)) else none
    | none => match tupsOk xs with
      | some _ => some (.lst (sortT xs))
      | none => none

/-- the distinct ones, as first met -/
def dd {α : Type} [DecidableEq α] (acc : List α) : List α → List α
  | [] => acc
  | x :: r => dd (if x ∈ acc then acc else acc ++ [x]) r
def dcount (xs : List D) : Option Nat := match getIs xs with
  | some ns => if ns.length ≤ 1000 then some (dd [] ns).length else none
  | none => match getSs xs with
    | some ss => if ss.length ≤ 1000 then some (dd [] ss).length else none
    | none => none
def chars (s : Str) : List D := s.cps.toList.map fun c => .str ⟨#[c]⟩

def b1D : Bi1 → D → Option D
  | .len, .lst xs => some (.int xs.length)
  | .len, .tup xs => some (.int xs.length)
  | .len, .str s => if s.length ≤ cap then some (.int s.length) else none
  | .sorted, .lst xs => sortD xs
  | .sum, .lst xs => (getIs xs).map fun ns => .int ns.sum
  | .min, .lst xs => match getIs xs with
    | some ns => (minI ns).map .int
    | none => match getSs xs with
      | some ss => (minS ss).map .str
      | none => none
  | .max, .lst xs => (getIs xs).bind fun ns => (maxI ns).map .int
  | .all, .lst xs => (getBs xs).map fun bs => .bl (bs.all id)
  | .any, .lst xs => (getBs xs).map fun bs => .bl (bs.any id)
  | .list, .lst xs => some (.lst xs)
  | .list, .tup xs => some (.lst xs)
  | .list, .str s => if s.length ≤ cap then some (.lst (chars s)) else none
  | .srtset, .lst xs => match getIs xs with
    | some ns => if ns.length < 64 then some (.lst ((sortI (dd [] ns)).map .int)) else none
    | none => none
  | .lenset, .lst xs => (dcount xs).map fun (n : Nat) => .int (n : Int)
  | .abs, .int i => some (.int (if i < 0 then -i else i))
  | .str, .int i => if i.natAbs < 2 ^ 64 then some (.str (toString i)) else none
  | .tuple, .lst xs => some (.tup xs)
  | .int, .str s => if s.length ≤ 640 then (PySem.intText? s).map .int else none
  | _, _ => none
def b2D : Bi2 → D → D → Option D
  | .min, .int i, .int j => some (.int (if j < i then j else i))
  | .max, .int i, .int j => some (.int (if j > i then j else i))
  | _, _, _ => none
def isTy : Ty → D → Option Bool
  | _, .cell _ => none
  | _, .exc _ => none
  | _, .scr _ => none
  | _, .ins _ => none
  | .int, .int _ => some true
  | .int, .bl _ => some true
  | .bool, .bl _ => some true
  | .list, .lst _ => some true
  | .str, .str _ => some true
  | _, _ => some false
def idxD (xs : List D) (a : D) : Option Nat := match xs with
  | [] => none
  | x :: r => if eqD x a then some 0 else (idxD r a).map (· + 1)
def meD : Me → D → D → Option D
  | .count, .lst xs, .bl b => (getBs xs).map fun bs => .int (bs.count b : Nat)
  | .index, .lst xs, a => if pln 8 a && plnL 8 xs then (idxD xs a).map fun (n : Nat) => .int (n : Int) else none
  | .join, .str s, .lst xs => match getSs xs with
    | some ys => if (ys.map (·.length)).sum + ys.length * s.length ≤ 1000000 then some (.str (PySem.Txt.join s ys)) else none
    | none => none
  | .split, .str s, .str b => if (b.length == 0) = false ∧ s.length + 2 ≤ cap then some (.lst ((PySem.Txt.split s b).map .str)) else none
  | _, _, _ => none

def recvD : Me → D → Bool
  | .index, .lst _ => true
  | .count, .lst _ => true
  | .join, .str _ => true
  | .split, .str _ => true
  | _, _ => false
/-! ### the IR -/
inductive Ex where
  | nil | cons (a r : Ex)
  | absent | opt (a : Ex)
  | var (i : Nat) | bvar (i : Nat)
  | lit (d : D) | gcon (x : Str) (d : D)
  | bin (o : Bop) (a b : Ex) | neg (a : Ex) | not (a : Ex)
  | ands (es : Ex) | ors (es : Ex)
  | cmp (o : Cop) (a b : Ex) | cmpc (o : Cop) (a b : Ex) | chain (o p : Cop) (a b c : Ex)
  | chain3 (o p q : Cop) (a b c d : Ex)
  | isn (a : Ex) | nisn (a : Ex)
  | ife (c a b : Ex)
  | list (es : Ex) | tuple (es : Ex) | clist (es : Ex)
  | sub (a i : Ex) | slice (a lo hi : Ex) | rev (a : Ex)
  | comp (elt : Ex) (tg : Tg) (it cond : Ex) (own : List Nat)
  | call (n : Nat) (es : Ex) | callb (n : Nat) (es : Ex)
  | fld (a : Ex) (i : Nat) | mcall (n : Nat) (a es : Ex) | make (n : Nat) (es : Ex) | popc (a : Ex) | lenr (n : Nat) (a : Ex)
  | b1 (o : Bi1) (a : Ex) | b2 (o : Bi2) (a b : Ex)
  | lrng (a : Ex) | clistof (a : Ex)
  | isI (t : Ty) (a : Ex) | isX (c : Nat) (a : Ex)
  | meth (o : Me) (a b : Ex)
  | iof (a : Ex) | itup (a : Ex) | istr (a : Ex) | irng1 (a : Ex) | irng2 (a b : Ex) | ienum (a : Ex) | izip (a b : Ex)

def setTg : Tg → D → Env → Option Env
  | .one i, d, e => some (st e i (some d))
  | .tup is, .tup ds, e => go is ds e
  | .tup _, _, _ => none
where go : List Nat → List D → Env → Option Env
  | [], [], e => some e
  | i :: is, d :: ds, e => go is ds (st e i (some d))
  | _, _, _ => none

def wipeE (e : Env) : List Nat → Env
  | [] => e
  | v :: vs => st (wipeE e vs) v none

/-- a comprehension's turns: f gives none where the test fails -/
def compGo (f : D → G → Res (Option D)) : List D → G → Res (List D)
  | [], g => .ok [] g
  | d :: ds, g => (f d g).bind fun o g => (compGo f ds g).bind fun r g => match o with
    | some y => .ok (y :: r) g
    | none => .ok r g

def rngD (lo hi : Int) : Option (List D) :=
  if -1000000 ≤ lo ∧ lo ≤ 1000000 ∧ -1000000 ≤ hi ∧ hi ≤ 1000000 then some ((List.range (hi - lo).toNat).map fun k => .int (lo + (k : Nat))) else none
def enumD (xs : List D) : List D := xs.zipIdx.map fun p => .tup [.int p.2, p.1]
def zipD (xs ys : List D) : List D := (xs.zip ys).map fun p => .tup [p.1, p.2]

def itemsD : D → Option (List D)
  | .lst xs => some xs
  | _ => none
def okO {α : Type} (o : Option α) (g : G) : Res α := match o with
  | some d => .ok d g
  | none => .stuck
/-- classes: 0 to 5 what is raised, 6 their base, 7 its base -/
def exSub (k c : Nat) : Bool := k == c || decide (6 ≤ c)
/-- a new reader: its two lists copied, nothing read -/
def mkRd (F : Fn) : Fn := fun ds g => (F ds g).bind fun _ g => match ds with
  | [.lst xs, .lst ys] => if nolistL xs && nolistL ys then .ok (.ins [.tup [.cell g.length, .cell (g.length + 1)], .cell (g.length + 2), .cell (g.length + 3)]) (g ++ [.lst xs, .lst ys, .lst [.int 0, .int 0], .lst []]) else .stuck
  | _ => .stuck

section
variable (T : List Fn)
mutual
def evE : Ex → Env → G → Res D
  | .var i, e, g => okR (gt e i) g
  | .bvar i, e, g => okR (gt e i) g
  | .lit d, _, g => .ok d g
  | .gcon _ d, _, g => .ok d g
  | .bin o a b, e, g => (evE a e g).bind fun x g => (evE b e g).bind fun y g => okR (binD o (dr g x) (dr g y)) g
  | .neg a, e, g => (evE a e g).bind fun x g => match x with
    | .int i => .ok (.int (-i)) g
    | _ => .stuck
  | .not a, e, g => (evE a e g).bind fun x g => match x with
    | .bl b => .ok (.bl (!b)) g
    | _ => .stuck
  | .ands es, e, g => evAnd es e g
  | .ors es, e, g => evOr es e g
  | .cmp o a b, e, g => (evE a e g).bind fun x g => (evE b e g).bind fun y g => okB (cmpD o x y) g
  | .cmpc o a b, e, g => (evE a e g).bind fun x g => (evE b e g).bind fun y g => okB (cmpD o (dr g x) (dr g y)) g
  | .chain o p a b c, e, g => (evE a e g).bind fun x g => (evE b e g).bind fun y g => match cmpD o x y with
    | some true => (evE c e g).bind fun z g => okB (cmpD p y z) g
    | some false => .ok (.bl false) g
    | none => .stuck
  | .chain3 o p q a b c d, e, g => (evE a e g).bind fun x g => (evE b e g).bind fun y g => match cmpD o x y with
    | some true => (evE c e g).bind fun z g => match cmpD p y z with
      | some true => (evE d e g).bind fun w g => okB (cmpD q z w) g
      | some false => .ok (.bl false) g
      | none => .stuck
    | some false => .ok (.bl false) g
    | none => .stuck
  | .isn a, e, g => (evE a e g).bind fun x g => .ok (.bl (isNon x)) g
  | .nisn a, e, g => (evE a e g).bind fun x g => .ok (.bl (!isNon x)) g
  | .ife c a b, e, g => (evE c e g).bind fun x g => match x with
    | .bl true => evE a e g
    | .bl false => evE b e g
    | _ => .stuck
  | .list es, e, g => (evEs es e g).bind fun xs g => .ok (.lst xs) g
  | .tuple es, e, g => (evEs es e g).bind fun xs g => .ok (.tup xs) g
  | .clist es, e, g => (evEs es e g).bind fun xs g => if nolistL xs then .ok (.cell g.length) (g ++ [.lst xs]) else .stuck
  | .clistof a, e, g => (evE a e g).bind fun x g => match x with
    | .scr ns => .ok (.cell g.length) (g ++ [.lst (ns.map .int)])
    | .lst xs => if nolistL xs then .ok (.cell g.length) (g ++ [.lst xs]) else .stuck
    | _ => .stuck
  | .sub a i, e, g => (evE a e g).bind fun x g => (evE i e g).bind fun y g => match y with
    | .int k => okR (subD (dr g x) k) g
    | _ => .stuck
  | .slice a lo hi, e, g => (evE a e g).bind fun x g => (evO lo e g).bind fun l g => (evO hi e g).bind fun h g => okR (cutE (dr g x) l h) g
  | .rev a, e, g => (evE a e g).bind fun x g => match x with
    | .lst xs => .ok (.lst xs.reverse) g
    | _ => .stuck
  | .comp elt tg it cond own, e, g => (evI it e g).bind fun ds g =>
      (nox (compGo (fun d g => match setTg tg d (wipeE e own) with
        | some e1 => (evC cond e1 g).bind fun b g => if b then (evE elt e1 g).bind fun y g => .ok (some y) g else .ok none g
        | none => .stuck) ds g)).bind mkL
  | .call n es, e, g => (evEs es e g).bind fun xs g => (T.getD n fun _ _ => .stuck) xs g
  | .callb n es, e, g => (evEs es e g).bind fun xs g => ((T.getD n fun _ _ => .stuck) xs g).bind fun d g => if scal d then .ok d g else .stuck
  | .b1 o a, e, g => (evE a e g).bind fun x g => okR (b1D o (dr g x)) g
  | .b2 o a b, e, g => (evE a e g).bind fun x g => (evE b e g).bind fun y g => okR (b2D o x y) g
  | .lrng a, e, g => (evE a e g).bind fun x g => match x with
    | .int n => (okO (rngD 0 n) g).bind fun xs g => .ok (.lst xs) g
    | _ => .stuck
  | .fld a i, e, g => (evE a e g).bind fun x g => match x with
    | .ins fs => okR fs[i]? g
    | _ => .stuck
  | .mcall n a es, e, g => (evE a e g).bind fun x g => match x with
    | .ins fs => (evEs es e g).bind fun xs g => (T.getD n fun _ _ => .stuck) (.ins fs :: xs) g
    | _ => .stuck
  | .make n es, e, g => (evEs es e g).bind fun xs g => (T.getD n fun _ _ => .stuck) xs g
  | .popc a, e, g => (evE a e g).bind fun x g => match x with
    | .cell n => match g[n]? with
      | some (.lst xs) => match xs[xs.length - 1]? with
        | some d => .ok d (g.set n (.lst xs.dropLast))
        | none => .stuck
      | _ => .stuck
    | _ => .stuck
  | .lenr n a, e, g => (evE a e g).bind fun x g => match x with
    | .ins fs => (nox ((T.getD n fun _ _ => .stuck) [.ins fs] g)).bind fun d g => match d with
      | .int i => if 0 ≤ i ∧ i < 2 ^ 62 then .ok (.int i) g else .stuck
      | _ => .stuck
    | _ => .stuck
  | .isX c a, e, g => (evE a e g).bind fun x g => match x with
    | .exc k => if k < 6 then .ok (.bl (exSub k c)) g else .stuck
    | _ => .stuck
  | .isI t a, e, g => (evE a e g).bind fun x g => okB (isTy t x) g
  | .meth o a b, e, g => (evE a e g).bind fun x g => if recvD o x then (evE b e g).bind fun y g => okR (meD o x y) g else .stuck
  | _, _, _ => .stuck
def evEs : Ex → Env → G → Res (List D)
  | .nil, _, g => .ok [] g
  | .cons a r, e, g => (evE a e g).bind fun x g => (evEs r e g).bind fun xs g => .ok (x :: xs) g
  | _, _, _ => .stuck
def evAnd : Ex → Env → G → Res D
  | .cons a r, e, g => (evE a e g).bind fun x g => match x with
    | .bl true => evAnd r e g
    | .bl false => .ok (.bl false) g
    | _ => .stuck
  | .nil, _, g => .ok (.bl true) g
  | _, _, _ => .stuck
def evOr : Ex → Env → G → Res D
  | .cons a r, e, g => (evE a e g).bind fun x g => match x with
    | .bl false => evOr r e g
    | .bl true => .ok (.bl true) g
    | _ => .stuck
  | .nil, _, g => .ok (.bl false) g
  | _, _, _ => .stuck
/-- an end of a slice -/
def evO : Ex → Env → G → Res (Option Int)
  | .absent, _, g => .ok none g
  | .opt a, e, g => (evE a e g).bind fun x g => match x with
    | .int i => .ok (some i) g
    | _ => .stuck
  | _, _, _ => .stuck
/-- a comprehension's test -/
def evC : Ex → Env → G → Res Bool
  | .absent, _, g => .ok true g
  | .opt a, e, g => (evE a e g).bind fun x g => match x with
    | .bl b => .ok b g
    | _ => .stuck
  | _, _, _ => .stuck
def evI : Ex → Env → G → Res (List D)
  | .iof a, e, g => (evE a e g).bind fun x g => match x with
    | .lst xs => .ok xs g
    | _ => .stuck
  | .itup a, e, g => (evE a e g).bind fun x g => match x with
    | .tup xs => .ok xs g
    | _ => .stuck
  | .istr a, e, g => (evE a e g).bind fun x g => match x with
    | .str s => .ok (chars s) g
    | _ => .stuck
  | .irng1 a, e, g => (evE a e g).bind fun x g => match x with
    | .int n => okO (rngD 0 n) g
    | _ => .stuck
  | .irng2 a b, e, g => (evE a e g).bind fun x g => (evE b e g).bind fun y g => match x, y with
    | .int m, .int n => okO (rngD m n) g
    | _, _ => .stuck
  | .ienum a, e, g => (evE a e g).bind fun x g => match x with
    | .lst xs => .ok (enumD xs) g
    | _ => .stuck
  | .izip a b, e, g => (evE a e g).bind fun x g => (evE b e g).bind fun y g => match x, y with
    | .lst xs, .lst ys => .ok (zipD xs ys) g
    | _, _ => .stuck
  | _, _, _ => .stuck
end
end

/-! ### statements -/
inductive St where
  | nil | cons (s r : St)
  | die | pass | brk | cnt | retn | ret (e : Ex) | retm (i : Nat)
  | asg (i : Nat) (e : Ex) | asgm (i : Nat) (e : Ex) | mov (i j : Nat) | unp (is : List Nat) (e : Ex)
  | par (is : List Nat) (es : Ex)
  | aug (i : Nat) (o : Bop) (e : Ex) | augs (i : Nat) (k : Ex) (o : Bop) (e : Ex)
  | seti (i : Nat) (k e : Ex) | setc (a k e : Ex) | set2 (i : Nat) (k1 k2 e1 e2 : Ex)
  | app (i : Nat) (e : Ex) | appc (a e : Ex) | rmv (i : Nat) (e : Ex)
  | ife (c : Ex) (s r : St) | whl (n : Nat) (c : Ex) (s : St) | forr (tg : Tg) (it : Ex) (s : St)
  | newm (is : List Nat) | rett (es : Ex)
  | augc (a k : Ex) (o : Bop) (e : Ex)
  | exp (e : Ex) | raise (c : Nat) | tryc (body : St) (i j : Nat)

inductive Out where
  | nx (e : Env) (g : G) | ret (d : D) (g : G) | brk (e : Env) (g : G) | cnt (e : Env) (g : G)
  | err (c : Nat) (e : Env) (g : G) | stuck

def Res.out {α : Type} (m : Res α) (e : Env) (f : α → G → Out) : Out := match m with
  | .ok a g => f a g
  | .err c g => .err c e g
  | .stuck => .stuck
def Out.seq (o : Out) (f : Env → G → Out) : Out := match o with
  | .nx e g => f e g
  | o => o

def forGo (f : D → Env → G → Out) : List D → Env → G → Out
  | [], e, g => .nx e g
  | d :: ds, e, g => match f d e g with
    | .nx e g => forGo f ds e g
    | .cnt e g => forGo f ds e g
    | .brk e g => .nx e g
    | o => o
def whlGo (c : Env → G → Res D) (f : Env → G → Out) : Nat → Env → G → Out
  | 0, _, _ => .stuck
  | n + 1, e, g => (c e g).out e fun x g => match x with
    | .bl true => match f e g with
      | .nx e g => whlGo c f n e g
      | .cnt e g => whlGo c f n e g
      | .brk e g => .nx e g
      | o => o
    | .bl false => .nx e g
    | _ => .stuck

def setAt (xs : List D) (k : Int) (d : D) : Option (List D) :=
  if 0 ≤ k ∧ k < xs.length then some (xs.set k.toNat d) else none
def setMany : List Nat → List D → Env → Option Env := setTg.go
def isInt : D → Bool | .int _ => true | _ => false
def isStr : D → Bool | .str _ => true | _ => false
def rmvD (xs : List D) (a : D) : Option (List D) := if (isInt a && xs.all isInt) || (isStr a && xs.all isStr) then (idxD xs a).map xs.eraseIdx else none

/-- new empty lists -/
def newGo : List Nat → Env → Env
  | [], e => e
  | i :: is, e => newGo is (Tv.st e i (some (.lst [])))
section
variable (T : List Fn)
def evS : St → Env → G → Out
  | .nil, e, g => .nx e g
  | .cons s r, e, g => (evS s e g).seq fun e g => evS r e g
  | .die, _, _ => .stuck
  | .pass, e, g => .nx e g
  | .brk, e, g => .brk e g
  | .cnt, e, g => .cnt e g
  | .retn, _, g => .ret .non g
  | .ret x, e, g => (evE T x e g).out e fun d g => .ret d g
  | .newm is, e, g => if is.all (fun i => decide (i < e.length)) then .nx (newGo is e) g else .stuck
  | .rett es, e, g => (evEs T es e g).out e fun ds g => .ret (.tup ds) g
  | .retm i, e, g => match gt e i with
    | some d => .ret d g
    | none => .stuck
  | .asg i x, e, g => (evE T x e g).out e fun d g => .nx (Tv.st e i (some d)) g
  | .asgm i x, e, g => (evE T x e g).out e fun d g => match d with
    | .lst _ => if i < e.length then .nx (Tv.st e i (some d)) g else .stuck
    | _ => .stuck
  | .mov i j, e, g => match gt e j with
    | some d => .nx (Tv.st (Tv.st e j none) i (some d)) g
    | none => .stuck
  | .unp is x, e, g => (evE T x e g).out e fun d g => match setTg (.tup is) d e with
    | some e => .nx e g
    | none => .stuck
  | .par is es, e, g => (evEs T es e g).out e fun ds g => match setMany is ds e with
    | some e => .nx e g
    | none => .stuck
  | .aug i o x, e, g => match gt e i with
    | some (.int a) => (evE T x e g).out e fun d g => match d with
      | .int b => match binD o (.int a) (.int b) with
        | some y => .nx (Tv.st e i (some y)) g
        | none => .stuck
      | _ => .stuck
    | _ => .stuck
  | .augs i k o x, e, g => match gt e i with
    | some (.lst xs) => (evE T k e g).out e fun kd g => match kd with
      | .int n => if 0 ≤ n then match xs[n.toNat]? with
          | some (.int a) => (evE T x e g).out e fun d g => match d with
            | .int b => match binD o (.int a) (.int b) with
              | some y => match setAt xs n y with
                | some zs => .nx (Tv.st e i (some (.lst zs))) g
                | none => .stuck
              | none => .stuck
            | _ => .stuck
          | _ => .stuck
        else .stuck
      | _ => .stuck
    | _ => .stuck
  | .augc a k o x, e, g => (evE T a e g).out e fun c g => (evE T k e g).out e fun kd g => match c, kd with
    | .cell m, .int n => match g[m]? with
      | some (.lst xs) => if 0 ≤ n then match xs[n.toNat]? with
          | some (.int a) => (evE T x e g).out e fun d g => match d, g[m]? with
            | .int b, some (.lst ys) => match binD o (.int a) (.int b) with
              | some y => match setAt ys n y with
                | some zs => .nx e (g.set m (.lst zs))
                | none => .stuck
              | none => .stuck
            | _, _ => .stuck
          | _ => .stuck
        else .stuck
      | _ => .stuck
    | _, _ => .stuck
  | .seti i k x, e, g => match gt e i with
    | some (.lst xs) => (evE T x e g).out e fun d g => (evE T k e g).out e fun kd g => match kd with
      | .int n => match setAt xs n d with
        | some ys => .nx (Tv.st e i (some (.lst ys))) g
        | none => .stuck
      | _ => .stuck
    | _ => .stuck
  | .setc a k x, e, g => (evE T x e g).out e fun d g => (evE T a e g).out e fun c g => (evE T k e g).out e fun kd g => match c, kd with
    | .cell m, .int n => match g[m]? with
      | some (.lst xs) => if nolist d then match setAt xs n d with
          | some ys => .nx e (g.set m (.lst ys))
          | none => .stuck
        else .stuck
      | _ => .stuck
    | _, _ => .stuck
  | .set2 i k1 k2 x1 x2, e, g => (evE T x1 e g).out e fun d1 g => (evE T x2 e g).out e fun d2 g => (evE T k1 e g).out e fun n1 g => match gt e i, n1 with
    | some (.lst xs), .int n1 => match setAt xs n1 d1 with
      | some ys => (evE T k2 (Tv.st e i (some (.lst ys))) g).out e fun n2 g => match n2 with
        | .int n2 => match setAt ys n2 d2 with
          | some zs => .nx (Tv.st e i (some (.lst zs))) g
          | none => .stuck
        | _ => .stuck
      | none => .stuck
    | _, _ => .stuck
  | .app i x, e, g => match gt e i with
    | some (.lst xs) => (evE T x e g).out e fun d g => if xs.length < cap then .nx (Tv.st e i (some (.lst (xs ++ [d])))) g else .stuck
    | _ => .stuck
  | .appc a x, e, g => (evE T a e g).out e fun c g => match c with
    | .cell m => match g[m]? with
      | some (.lst _) => (evE T x e g).out e fun d g => match g[m]? with
        | some (.lst xs) => if nolist d && decide (xs.length < cap) then .nx e (g.set m (.lst (xs ++ [d]))) else .stuck
        | _ => .stuck
      | _ => .stuck
    | _ => .stuck
  | .rmv i x, e, g => match gt e i with
    | some (.lst xs) => (evE T x e g).out e fun d g => match rmvD xs d with
      | some ys => .nx (Tv.st e i (some (.lst ys))) g
      | none => .stuck
    | _ => .stuck
  | .ife c s r, e, g => (evE T c e g).out e fun x g => match x with
    | .bl true => evS s e g
    | .bl false => evS r e g
    | _ => .stuck
  | .whl n c s, e, g => whlGo (evE T c) (evS s) n e g
  | .forr tg it s, e, g => (evI T it e g).out e fun ds g => forGo (fun d e g => match setTg tg d e with
    | some e => evS s e g
    | none => .stuck) ds e g
  | .exp x, e, g => (evE T x e g).out e fun _ g => .nx e g
  | .raise c, e, g => .err c e g
  | .tryc b i j, e, g => match evS b e g with
    | .err k e g => if k < 6 then .nx (Tv.st (Tv.st (Tv.st e i (some (.exc k))) j (some (.exc k))) i none) g else .stuck
    | o => o
end
/-- a def: its parameters' number, its slots' number, its body -/
def mkFn (T : List Fn) (np n : Nat) (b : St) : Fn := fun ds g =>
  if ds.length = np then match evS T b (ds.map some ++ List.replicate (n - np) none) g with
    | .nx _ g => .ok .non g
    | .ret d g => .ok d g
    | .err c _ g => .err c g
    | _ => .stuck
  else .stuck
end Tv

set_option Elab.async false
set_option linter.all false
set_option maxRecDepth 100000
/-! Representation of data in the abstract heap; the state relation. -/
namespace Tv
open PySem PySem.Spec PyProof.Rows L2

def ScAt (K : PySem.W.Frag) (H : Hp) (a : Addr) (xs : List V) : Prop :=
  (∃ o, H a = some (.frz o (.lst xs))) ∨
    ∃ (o : Obj) (its : Array Value) (n : Nat), K.lookup a = some o ∧ o.cls = .type "list" ∧ o.dict = none ∧ o.data = .seq its n ∧ its.size ≤ sizeLine ∧ Vals xs its.toList
theorem ScAt.sq {K H a xs} (h : ScAt K H a xs) : SqL K H a xs := by
  rcases h with ⟨o, h⟩ | h
  · exact .inl (.inr ⟨o, h⟩)
  · exact .inr h
section
variable (K : PySem.W.Frag) (XR : Nat → Addr → Hp → Prop) (F : Addr → Prop) (γ : List Addr) (H : Hp)
mutual
def Rp : D → V → Prop
  | .non, v => v = .non
  | .bl b, v => v = .bl b
  | .int i, v => v = .int i
  | .str s, v => v = .str s
  | .lst ds, v => ∃ a xs, v = .ref a ∧ (H a = some (.lst xs) ∧ ¬ F a) ∧ RpL ds xs
  | .tup ds, v => ∃ a xs, v = .ref a ∧ SqT K H a xs ∧ RpL ds xs
  | .exc c, v => ∃ a, v = .ref a ∧ XR c a H
  | .cell n, v => ∃ a, v = .ref a ∧ γ[n]? = some a
  | .scr ns, v => ∃ a, v = .ref a ∧ ScAt K H a (ns.map V.int)
  | .ins fs, v => ∃ a C dx x0 x1 x2, v = .ref a ∧ XR 100 a H ∧ H a = some (.ins C dx [("lists", x0), ("depths", x1), ("made", x2)]) ∧ RpL fs [x0, x1, x2]
def RpL : List D → List V → Prop
  | [], xs => xs = []
  | d :: ds, xs => ∃ v r, xs = v :: r ∧ Rp d v ∧ RpL ds r
end
end

/-- what a value's representation leans on stays -/
structure Mono (XR : Nat → Addr → Hp → Prop) (F : Addr → Prop) (γ : List Addr) (H : Hp) (F' : Addr → Prop) (γ' : List Addr) (H' : Hp) : Prop where
  ls : ∀ a xs, H a = some (.lst xs) → ¬ F a → H' a = some (.lst xs) ∧ ¬ F' a
  nl : ∀ a o, (∀ xs, o ≠ .lst xs) → H a = some o → H' a = some o
  gm : γ <+: γ'
  xr : ∀ c a, XR c a H → XR c a H'

theorem pre_get {γ γ' : List Addr} (h : γ <+: γ') {n : Nat} {a : Addr} (e : γ[n]? = some a) : γ'[n]? = some a := by
  obtain ⟨r, rfl⟩ := h
  rw [List.getElem?_append_left]
  · exact e
  · exact (List.getElem?_eq_some_iff.mp e).1
theorem SqT.mono {K : PySem.W.Frag} {XR F γ H F' γ' H'} (m : Mono XR F γ H F' γ' H') {a xs} (h : SqT K H a xs) : SqT K H' a xs := by
  rcases h with (h | ⟨o, h⟩) | h
  · exact .inl (.inl (m.nl _ _ (fun _ z => by cases z) h))
  · exact .inl (.inr ⟨o, m.nl _ _ (fun _ z => by cases z) h⟩)
  · exact .inr h
theorem ScAt.mono {K : PySem.W.Frag} {XR F γ H F' γ' H'} (m : Mono XR F γ H F' γ' H') {a xs} (h : ScAt K H a xs) : ScAt K H' a xs := by
  rcases h with ⟨o, h⟩ | h
  · exact .inl ⟨o, m.nl _ _ (fun _ z => by cases z) h⟩
  · exact .inr h
section
variable {K : PySem.W.Frag} {XR : Nat → Addr → Hp → Prop} {F F' : Addr → Prop} {γ γ' : List Addr} {H H' : Hp}
mutual
theorem Rp.mono (m : Mono XR F γ H F' γ' H') : ∀ (d : D) (v : V), Rp K XR F γ H d v → Rp K XR F' γ' H' d v
  | .non, _, h => h
  | .bl _, _, h => h
  | .int _, _, h => h
  | .str _, _, h => h
  | .lst ds, v, h => by
    unfold Rp at h ⊢
    obtain ⟨a, xs, e, l, r⟩ := h
    exact ⟨a, xs, e, m.ls _ _ l.1 l.2, RpL.mono m ds xs r⟩
  | .tup ds, v, h => by
    unfold Rp at h ⊢
    obtain ⟨a, xs, e, l, r⟩ := h
    exact ⟨a, xs, e, SqT.mono m l, RpL.mono m ds xs r⟩
  | .exc c, v, h => by
    unfold Rp at h ⊢
    obtain ⟨a, e, x⟩ := h
    exact ⟨a, e, m.xr _ _ x⟩
  | .cell n, v, h => by
    unfold Rp at h ⊢
    obtain ⟨a, e, x⟩ := h
    exact ⟨a, e, pre_get m.gm x⟩
  | .scr ns, v, h => by
    unfold Rp at h ⊢
    obtain ⟨a, e, x⟩ := h
    exact ⟨a, e, x.mono m⟩
  | .ins fs, v, h => by
    unfold Rp at h ⊢
    obtain ⟨a, C, dx, x0, x1, x2, e, x, l, r⟩ := h
    exact ⟨a, C, dx, x0, x1, x2, e, m.xr _ _ x, m.nl _ _ (fun _ z => by cases z) l, RpL.mono m fs _ r⟩
theorem RpL.mono (m : Mono XR F γ H F' γ' H') : ∀ (ds : List D) (xs : List V), RpL K XR F γ H ds xs → RpL K XR F' γ' H' ds xs
  | [], _, h => h
  | d :: ds, xs, h => by
    unfold RpL at h ⊢
    obtain ⟨v, r, e, h1, h2⟩ := h
    exact ⟨v, r, e, Rp.mono m d v h1, RpL.mono m ds r h2⟩
end
mutual
/-- without lists within nothing hangs on F -/
theorem Rp.nol : ∀ (d : D) (v : V), nolist d = true → Rp K XR F γ H d v → Rp K XR F' γ H d v
  | .non, _, _, h => h
  | .bl _, _, _, h => h
  | .int _, _, _, h => h
  | .str _, _, _, h => h
  | .lst ds, v, n, h => by simp [nolist] at n
  | .tup ds, v, n, h => by
    unfold Rp at h ⊢
    obtain ⟨a, xs, e, l, r⟩ := h
    exact ⟨a, xs, e, l, RpL.nol ds xs (by simpa [nolist] using n) r⟩
  | .exc c, v, _, h => h
  | .cell n, v, _, h => h
  | .scr n, v, _, h => h
  | .ins fs, v, n, h => by
    unfold Rp at h ⊢
    obtain ⟨a, C, dx, x0, x1, x2, e, x, l, r⟩ := h
    exact ⟨a, C, dx, x0, x1, x2, e, x, l, RpL.nol fs _ (by simpa [nolist] using n) r⟩
theorem RpL.nol : ∀ (ds : List D) (xs : List V), nolistL ds = true → RpL K XR F γ H ds xs → RpL K XR F' γ H ds xs
  | [], _, _, h => h
  | d :: ds, xs, n, h => by
    unfold RpL at h ⊢
    obtain ⟨v, r, e, h1, h2⟩ := h
    have n' : nolist d = true ∧ nolistL ds = true := by simpa [nolistL] using n
    exact ⟨v, r, e, Rp.nol d v n'.1 h1, RpL.nol ds r n'.2 h2⟩
end
theorem Rp.scal : ∀ {d : D} {v : V}, scal d = true → Rp K XR F γ H d v → Rp K XR F' γ' H' d v
  | .non, _, _, h => h
  | .bl _, _, _, h => h
  | .int _, _, _, h => h
  | .str _, _, _, h => h
  | .lst ds, v, n, h => by simp [Tv.scal] at n
  | .tup ds, v, n, h => by simp [Tv.scal] at n
  | .exc c, v, n, h => by simp [Tv.scal] at n
  | .cell n, v, m, h => by simp [Tv.scal] at m
  | .scr n, v, m, h => by simp [Tv.scal] at m
  | .ins n, v, m, h => by simp [Tv.scal] at m
theorem RpL.len : ∀ {ds : List D} {xs : List V}, RpL K XR F γ H ds xs → xs.length = ds.length
  | [], _, h => by unfold RpL at h; rw [h]; rfl
  | d :: ds, xs, h => by
    unfold RpL at h
    obtain ⟨v, r, e, h1, h2⟩ := h
    rw [e, List.length_cons, RpL.len h2]; rfl
theorem RpL.get : ∀ {ds : List D} {xs : List V} {n : Nat} {d : D}, RpL K XR F γ H ds xs → ds[n]? = some d → ∃ v, xs[n]? = some v ∧ Rp K XR F γ H d v
  | [], _, _, _, _, e => by simp at e
  | d :: ds, xs, 0, d', h, e => by
    unfold RpL at h
    obtain ⟨v, r, rfl, h1, h2⟩ := h
    simp at e; subst e
    exact ⟨v, rfl, h1⟩
  | d :: ds, xs, n + 1, d', h, e => by
    unfold RpL at h
    obtain ⟨v, r, rfl, h1, h2⟩ := h
    obtain ⟨u, h3, h4⟩ := RpL.get (n := n) h2 (by simpa using e)
    exact ⟨u, by simpa using h3, h4⟩
theorem RpL.get' : ∀ {ds : List D} {xs : List V} {n : Nat} {v : V}, RpL K XR F γ H ds xs → xs[n]? = some v → ∃ d, ds[n]? = some d ∧ Rp K XR F γ H d v
  | [], _, _, _, h, e => by unfold RpL at h; subst h; simp at e
  | d :: ds, xs, 0, d', h, e => by
    unfold RpL at h
    obtain ⟨v, r, rfl, h1, h2⟩ := h
    simp at e; subst e
    exact ⟨d, rfl, h1⟩
  | d :: ds, xs, n + 1, d', h, e => by
    unfold RpL at h
    obtain ⟨v, r, rfl, h1, h2⟩ := h
    obtain ⟨u, h3, h4⟩ := RpL.get' (n := n) h2 (by simpa using e)
    exact ⟨u, by simpa using h3, h4⟩
theorem RpL.cons {d : D} {v : V} {ds : List D} {xs : List V} (h : Rp K XR F γ H d v) (t : RpL K XR F γ H ds xs) : RpL K XR F γ H (d :: ds) (v :: xs) := by
  unfold RpL; exact ⟨v, xs, rfl, h, t⟩
theorem RpL.nil : RpL K XR F γ H [] [] := by unfold RpL; rfl
theorem RpL.append : ∀ {ds es : List D} {xs ys : List V}, RpL K XR F γ H ds xs → RpL K XR F γ H es ys → RpL K XR F γ H (ds ++ es) (xs ++ ys)
  | [], _, _, _, h, t => by unfold RpL at h; subst h; exact t
  | d :: ds, es, xs, ys, h, t => by
    unfold RpL at h
    obtain ⟨v, r, rfl, h1, h2⟩ := h
    exact .cons h1 (.append h2 t)
theorem RpL.take : ∀ {ds : List D} {xs : List V} (n : Nat), RpL K XR F γ H ds xs → RpL K XR F γ H (ds.take n) (xs.take n)
  | _, _, 0, _ => by simpa using RpL.nil
  | [], _, n + 1, h => by unfold RpL at h; subst h; simpa using RpL.nil
  | d :: ds, xs, n + 1, h => by
    unfold RpL at h
    obtain ⟨v, r, rfl, h1, h2⟩ := h
    exact .cons h1 (.take n h2)
theorem RpL.drop : ∀ {ds : List D} {xs : List V} (n : Nat), RpL K XR F γ H ds xs → RpL K XR F γ H (ds.drop n) (xs.drop n)
  | _, _, 0, h => h
  | [], _, n + 1, h => by unfold RpL at h; subst h; simpa using RpL.nil
  | d :: ds, xs, n + 1, h => by
    unfold RpL at h
    obtain ⟨v, r, rfl, h1, h2⟩ := h
    exact .drop n h2
theorem RpL.reverse : ∀ {ds : List D} {xs : List V}, RpL K XR F γ H ds xs → RpL K XR F γ H ds.reverse xs.reverse
  | [], _, h => by unfold RpL at h; subst h; exact .nil
  | d :: ds, xs, h => by
    unfold RpL at h
    obtain ⟨v, r, rfl, h1, h2⟩ := h
    simp only [List.reverse_cons]
    exact .append (.reverse h2) (.cons h1 .nil)
theorem RpL.set : ∀ {ds : List D} {xs : List V} {d : D} {v : V} (n : Nat), RpL K XR F γ H ds xs → Rp K XR F γ H d v → RpL K XR F γ H (ds.set n d) (xs.set n v)
  | [], _, _, _, _, h, _ => by unfold RpL at h; subst h; simpa using RpL.nil
  | d :: ds, xs, _, _, 0, h, k => by
    unfold RpL at h
    obtain ⟨v, r, rfl, h1, h2⟩ := h
    exact .cons k h2
  | d :: ds, xs, _, _, n + 1, h, k => by
    unfold RpL at h
    obtain ⟨v, r, rfl, h1, h2⟩ := h
    exact .cons h1 (.set n h2 k)
theorem RpL.eraseIdx : ∀ {ds : List D} {xs : List V} (n : Nat), RpL K XR F γ H ds xs → RpL K XR F γ H (ds.eraseIdx n) (xs.eraseIdx n)
  | [], _, _, h => by unfold RpL at h; subst h; simpa using RpL.nil
  | d :: ds, xs, 0, h => by
    unfold RpL at h
    obtain ⟨v, r, rfl, h1, h2⟩ := h
    exact h2
  | d :: ds, xs, n + 1, h => by
    unfold RpL at h
    obtain ⟨v, r, rfl, h1, h2⟩ := h
    exact .cons h1 (.eraseIdx n h2)
theorem RpL.flat : ∀ {ds : List D} {xs : List V} (n : Nat), RpL K XR F γ H ds xs → RpL K XR F γ H (List.replicate n ds).flatten (List.replicate n xs).flatten
  | _, _, 0, _ => .nil
  | ds, xs, n + 1, h => by
    simp only [List.replicate_succ, List.flatten_cons]
    exact .append h (.flat n h)
theorem RpL.of_ints : ∀ (ns : List Int), RpL K XR F γ H (ns.map D.int) (ns.map V.int)
  | [] => .nil
  | n :: r => .cons (by unfold Rp; rfl) (.of_ints r)
theorem RpL.of_strs : ∀ (ns : List Str), RpL K XR F γ H (ns.map D.str) (ns.map V.str)
  | [] => .nil
  | n :: r => .cons (by unfold Rp; rfl) (.of_strs r)
theorem RpL.getIs : ∀ {ds : List D} {xs : List V} {ns : List Int}, RpL K XR F γ H ds xs → Tv.getIs ds = some ns → xs = ns.map V.int ∧ ds = ns.map D.int
  | [], _, ns, h, e => by unfold RpL at h; subst h; simp [Tv.getIs] at e; subst e; exact ⟨rfl, rfl⟩
  | d :: ds, xs, ns, h, e => by
    unfold RpL at h
    obtain ⟨v, r, rfl, h1, h2⟩ := h
    cases d with
    | int i =>
      simp only [Tv.getIs, Option.map_eq_some_iff] at e
      obtain ⟨m, e1, rfl⟩ := e
      obtain ⟨q1, q2⟩ := RpL.getIs h2 e1
      unfold Rp at h1
      subst h1 q1 q2
      exact ⟨rfl, rfl⟩
    | _ => simp [Tv.getIs] at e
theorem RpL.getSs : ∀ {ds : List D} {xs : List V} {ns : List Str}, RpL K XR F γ H ds xs → Tv.getSs ds = some ns → xs = ns.map V.str ∧ ds = ns.map D.str
  | [], _, ns, h, e => by unfold RpL at h; subst h; simp [Tv.getSs] at e; subst e; exact ⟨rfl, rfl⟩
  | d :: ds, xs, ns, h, e => by
    unfold RpL at h
    obtain ⟨v, r, rfl, h1, h2⟩ := h
    cases d with
    | str i =>
      simp only [Tv.getSs, Option.map_eq_some_iff] at e
      obtain ⟨m, e1, rfl⟩ := e
      obtain ⟨q1, q2⟩ := RpL.getSs h2 e1
      unfold Rp at h1
      subst h1 q1 q2
      exact ⟨rfl, rfl⟩
    | _ => simp [Tv.getSs] at e
theorem RpL.getBs : ∀ {ds : List D} {xs : List V} {ns : List Bool}, RpL K XR F γ H ds xs → Tv.getBs ds = some ns → xs = ns.map V.bl ∧ ds = ns.map D.bl
  | [], _, ns, h, e => by unfold RpL at h; subst h; simp [Tv.getBs] at e; subst e; exact ⟨rfl, rfl⟩
  | d :: ds, xs, ns, h, e => by
    unfold RpL at h
    obtain ⟨v, r, rfl, h1, h2⟩ := h
    cases d with
    | bl i =>
      simp only [Tv.getBs, Option.map_eq_some_iff] at e
      obtain ⟨m, e1, rfl⟩ := e
      obtain ⟨q1, q2⟩ := RpL.getBs h2 e1
      unfold Rp at h1
      subst h1 q1 q2
      exact ⟨rfl, rfl⟩
    | _ => simp [Tv.getBs] at e
end

/-! ### the state -/
def Fp (γ : List Addr) (loc : Nat → Option Addr) (ext : Addr → Prop) : Addr → Prop := fun a => a ∈ γ ∨ (∃ i, loc i = some a) ∨ ext a
def F0 : Addr → Prop := fun _ => False
def ClAt (K : PySem.W.Frag) (XR : Nat → Addr → Hp → Prop) (γ : List Addr) (H : Hp) (a : Addr) : Cl → Prop
  | .lst ds => nolistL ds = true ∧ ∃ xs, H a = some (.lst xs) ∧ RpL K XR F0 γ H ds xs
  | .ins _ _ => False

structure SR (K : PySem.W.Frag) (XR : Nat → Addr → Hp → Prop) (ext : Addr → Prop) (M : List Nat) (env : Env) (g : G) (σ : L2.St) (H : Hp) (γ : List Addr) (loc : Nat → Option Addr) : Prop where
  len : env.length = σ.length
  gl : γ.length = g.length
  gnd : γ.Nodup
  cells : ∀ (n : Nat) (a : Addr) (c : Cl), γ[n]? = some a → g[n]? = some c → ClAt K XR γ H a c
  ex : ∀ a, ext a → H a ≠ none
  slotM : ∀ i d, i ∈ M → gt env i = some d → ∃ a xs ds, d = .lst ds ∧ loc i = some a ∧ σ[i]? = some (some (.ref a)) ∧ H a = some (.lst xs) ∧ RpL K XR (Fp γ loc ext) γ H ds xs
  slotN : ∀ i d, i ∉ M → gt env i = some d → ∃ v, σ[i]? = some (some v) ∧ Rp K XR (Fp γ loc ext) γ H d v
  live : ∀ i a, loc i = some a → i ∈ M ∧ ∃ d, gt env i = some d
  inj : ∀ i j a, loc i = some a → loc j = some a → i = j
  apart : ∀ i a, loc i = some a → a ∉ γ ∧ ¬ ext a

structure Step (γ : List Addr) (loc : Nat → Option Addr) (H : Hp) (γ' : List Addr) (loc' : Nat → Option Addr) (H' : Hp) : Prop where
  keep : ∀ a o, a ∉ γ → (∀ i, loc i ≠ some a) → H a = some o → H' a = some o
  live : ∀ a, H a ≠ none → H' a ≠ none
  grow : γ <+: γ'
  newg : ∀ a, a ∈ γ' → a ∈ γ ∨ H a = none
  newl : ∀ i a, loc' i = some a → (∃ j, loc j = some a) ∨ H a = none

/-- a fact of exceptions' values stays where the heap grows -/
def XRok (XR : Nat → Addr → Hp → Prop) : Prop := ∀ c a H, XR c a H → ∀ H', (∀ b, (∀ xs, H b ≠ some (.lst xs)) → ∀ o, H b = some o → H' b = some o) → XR c a H'

section
variable {K : PySem.W.Frag} {XR : Nat → Addr → Hp → Prop} {ext : Addr → Prop} {M : List Nat} {env : Env} {g g' : G} {σ : L2.St} {H H' H2 : Hp} {γ γ' γ2 : List Addr} {loc loc' loc2 : Nat → Option Addr}

theorem SR.cell (S : SR K XR ext M env g σ H γ loc) {a : Addr} (h : a ∈ γ) : ∃ xs, H a = some (.lst xs) := by
  obtain ⟨n, hn, e⟩ := List.getElem_of_mem h
  have e' : γ[n]? = some a := by rw [List.getElem?_eq_getElem hn, e]
  have hg : n < g.length := S.gl ▸ hn
  have q := S.cells n a g[n] e' (List.getElem?_eq_getElem hg)
  cases hc : g[n] with
  | lst ds => rw [hc] at q; obtain ⟨_, xs, e2, _⟩ := q; exact ⟨xs, e2⟩
  | ins c fs => rw [hc] at q; exact q.elim
theorem SR.own (S : SR K XR ext M env g σ H γ loc) {i : Nat} {a : Addr} (h : loc i = some a) : ∃ xs, H a = some (.lst xs) := by
  obtain ⟨hm, d, hd⟩ := S.live i a h
  obtain ⟨a', xs, ds, _, e, _, e2, _⟩ := S.slotM i d hm hd
  rw [h] at e; cases e
  exact ⟨xs, e2⟩
theorem Step.refl : Step γ loc H γ loc H := ⟨fun _ _ _ _ h => h, fun _ h => h, List.prefix_refl _, fun _ h => .inl h, fun i a h => .inl ⟨i, h⟩⟩
theorem Step.trans (a : Step γ loc H γ' loc' H') (b : Step γ' loc' H' γ2 loc2 H2) (hg : ∀ c ∈ γ, H c ≠ none) : Step γ loc H γ2 loc2 H2 where
  keep := fun c o h1 h2 e => b.keep c o (fun z => (a.newg c z).elim h1 fun q => by rw [e] at q; cases q) (fun i z => (a.newl i c z).elim (fun ⟨j, q⟩ => h2 j q) fun q => by rw [e] at q; cases q) (a.keep c o h1 h2 e)
  live := fun c h => b.live c (a.live c h)
  grow := a.grow.trans b.grow
  newg := fun c h => by
    rcases b.newg c h with q | q
    · exact a.newg c q
    · refine .inr ?_
      cases e : H c with
      | none => rfl
      | some o => exact absurd q (a.live c (by rw [e]; simp))
  newl := fun i c h => by
    rcases b.newl i c h with ⟨j, q⟩ | q
    · exact a.newl j c q
    · refine .inr ?_
      cases e : H c with
      | none => rfl
      | some o => exact absurd q (a.live c (by rw [e]; simp))
/-- a step of an expression: no local's own list changes -/
structure StE (γ : List Addr) (loc : Nat → Option Addr) (H : Hp) (γ' : List Addr) (H' : Hp) : Prop extends Step γ loc H γ' loc H' where
  own : ∀ i a, loc i = some a → H' a = H a
theorem StE.refl : StE γ loc H γ H := ⟨.refl, fun _ _ _ => rfl⟩
theorem StE.trans (a : StE γ loc H γ' H') (b : StE γ' loc H' γ2 H2) (hg : ∀ c ∈ γ, H c ≠ none) : StE γ loc H γ2 H2 := ⟨a.toStep.trans b.toStep hg, fun i c h => (b.own i c h).trans (a.own i c h)⟩
theorem SR.cellne (S : SR K XR ext M env g σ H γ loc) : ∀ c ∈ γ, H c ≠ none := fun c h => by
  obtain ⟨xs, e⟩ := S.cell h
  rw [e]; simp
/-- from a state to one that bears more: the locals stay -/
structure Next (γ : List Addr) (H : Hp) (γ' : List Addr) (H' : Hp) : Prop where
  keep : ∀ a o, a ∉ γ → H a = some o → H' a = some o
  live : ∀ a, H a ≠ none → H' a ≠ none
  grow : γ <+: γ'
  newg : ∀ a, a ∈ γ' → a ∈ γ ∨ H a = none
theorem Next.step (n : Next γ H γ' H') : Step γ loc H γ' loc H' := ⟨fun a o h _ e => n.keep a o h e, n.live, n.grow, n.newg, fun i a h => .inl ⟨i, h⟩⟩
theorem Next.ste (n : Next γ H γ' H') (S : SR K XR ext M env g σ H γ loc) : StE γ loc H γ' H' := ⟨n.step, fun i a h => by
  obtain ⟨xs, e⟩ := S.own h
  rw [e]
  exact n.keep a _ (S.apart i a h).1 e⟩
theorem Next.mono (n : Next γ H γ' H') (hx : XRok XR) (S : SR K XR ext M env g σ H γ loc) : Mono XR (Fp γ loc ext) γ H (Fp γ' loc ext) γ' H' where
  ls := fun a xs e f => by
    have ha : a ∉ γ := fun z => f (.inl z)
    refine ⟨n.keep a _ ha e, fun z => f ?_⟩
    rcases z with z | z | z
    · rcases n.newg a z with q | q
      · exact .inl q
      · rw [e] at q; cases q
    · exact .inr (.inl z)
    · exact .inr (.inr z)
  nl := fun a o ho e => n.keep a _ (fun z => by obtain ⟨ys, q⟩ := S.cell z; rw [e] at q; cases q; exact ho _ rfl) e
  gm := n.grow
  xr := fun c a h => hx c a H h H' fun b hb o e => n.keep b o (fun z => by obtain ⟨ys, q⟩ := S.cell z; exact hb ys q) e
theorem SR.next (S : SR K XR ext M env g σ H γ loc) (n : Next γ H γ' H') (hx : XRok XR) (gl' : γ'.length = g'.length) (gnd' : γ'.Nodup) (cells' : ∀ (n : Nat) (a : Addr) (c : Cl), γ'[n]? = some a → g'[n]? = some c → ClAt K XR γ' H' a c) : SR K XR ext M env g' σ H' γ' loc where
  len := S.len
  gl := gl'
  gnd := gnd'
  cells := cells'
  ex := fun a h => n.live a (S.ex a h)
  slotM := fun i d hm hd => by
    obtain ⟨a, xs, ds, e1, e2, e3, e4, r⟩ := S.slotM i d hm hd
    exact ⟨a, xs, ds, e1, e2, e3, n.keep a _ (S.apart i a e2).1 e4, r.mono (n.mono hx S)⟩
  slotN := fun i d hm hd => by
    obtain ⟨v, e1, r⟩ := S.slotN i d hm hd
    exact ⟨v, e1, r.mono (n.mono hx S)⟩
  live := S.live
  inj := S.inj
  apart := fun i a h => by
    obtain ⟨h1, h2⟩ := S.apart i a h
    refine ⟨fun z => ?_, h2⟩
    rcases n.newg a z with q | q
    · exact h1 q
    · obtain ⟨xs, e⟩ := S.own h
      rw [e] at q; cases q
/-- a new object -/
theorem Next.alloc {p : Addr} {o : HO} (hp : H p = none) : Next γ H γ (upd H p o) :=
  ⟨fun a u _ e => by rw [upd_ne (ne_of_none e hp)]; exact e, fun a h => by
    unfold upd; split
    · simp
    · exact h, List.prefix_refl _, fun _ h => .inl h⟩
theorem RpL.F0 {ds xs} {F : Addr → Prop} (n : nolistL ds = true) (h : RpL K XR F γ H ds xs) : RpL K XR Tv.F0 γ H ds xs := h.nol _ _ n
theorem Mono.f0 (S : SR K XR ext M env g σ H γ loc) (n : Next γ H γ' H') (hx : XRok XR) : ∀ {ds xs}, nolistL ds = true → RpL K XR Tv.F0 γ H ds xs → RpL K XR Tv.F0 γ' H' ds xs := fun {ds xs} nl h =>
  RpL.F0 nl (RpL.mono (n.mono hx S) ds xs (h.nol _ _ nl))
theorem SR.alloc (S : SR K XR ext M env g σ H γ loc) (hx : XRok XR) {p : Addr} {o : HO} (hp : H p = none) : SR K XR ext M env g σ (upd H p o) γ loc :=
  S.next (.alloc hp) hx S.gl S.gnd fun n a c e1 e2 => by
    have q := S.cells n a c e1 e2
    have ha : a ∈ γ := List.mem_of_getElem? e1
    cases c with
    | ins c fs => exact q.elim
    | lst ds =>
      obtain ⟨nl, xs, e, r⟩ := q
      exact ⟨nl, xs, by rw [upd_ne (ne_of_none e hp)]; exact e, Mono.f0 S (.alloc hp) hx nl r⟩
end
end Tv

set_option Elab.async false
set_option linter.all false
set_option maxRecDepth 100000
/-! The IR held against the model's syntax. -/
namespace Tv
open PySem L2

def dName : Expr → Option Str | .Name x _ => some x | _ => none
def dCst : Expr → Option D
  | .Constant .none _ _ => some .non
  | .Constant (.bool b) _ _ => some (.bl b)
  | .Constant (.int i) _ _ => some (.int i)
  | .Constant (.str s) _ _ => some (.str s)
  | _ => none
def dBin : Expr → Option (Expr × Operator × Expr) | .BinOp a o b _ => some (a, o, b) | _ => none
def dUn : Expr → Option (UnaryOp × Expr) | .UnaryOp o a _ => some (o, a) | _ => none
def dBool : Expr → Option (PySem.BoolOp × List Expr) | .BoolOp o es _ => some (o, es) | _ => none
def dCmp : Expr → Option (Expr × List CmpOp × List Expr) | .Compare a os es _ => some (a, os, es) | _ => none
def dIf : Expr → Option (Expr × Expr × Expr) | .IfExp c a b _ => some (c, a, b) | _ => none
def dList : Expr → Option (List Expr) | .List es _ => some es | _ => none
def dTup : Expr → Option (List Expr) | .Tuple es _ _ => some es | _ => none
def dSub : Expr → Option (Expr × Expr) | .Subscript a i _ => some (a, i) | _ => none
def dAttr : Expr → Option (Expr × Str) | .Attribute x f _ => some (x, f) | _ => none
def dSlice : Expr → Option (Option Expr × Option Expr × Option Expr) | .Slice a b c _ => some (a, b, c) | _ => none
def dCall : Expr → Option (Str × List Expr) | .Call (.Name f _) es [] _ => some (f, es) | _ => none
def dMeth : Expr → Option (Expr × Str × List Expr) | .Call (.Attribute o m p) es [] q => if p.endLine == q.line then some (o, m, es) else none | _ => none
def dComp : Expr → Option (Expr × Expr × Expr × List Expr × Scope) | .ListComp x [⟨t, i, c, 0⟩] s _ => some (x, t, i, c, s) | _ => none

def bopIs : Bop → Operator → Bool
  | .add, .Add | .sub, .Sub | .mul, .Mult | .fdiv, .FloorDiv | .mod, .Mod | .pow, .Pow => true
  | _, _ => false
def copIs : Cop → CmpOp → Bool
  | .eq, .Eq | .ne, .NotEq | .lt, .Lt | .le, .LtE | .gt, .Gt | .ge, .GtE | .isin, .In | .notin, .NotIn | .isb, .Is | .nisb, .IsNot => true
  | _, _ => false
def bi1Name : Bi1 → Str
  | .len => "len" | .sorted => "sorted" | .sum => "sum" | .min => "min" | .max => "max" | .all => "all" | .any => "any"
  | .list => "list" | .tuple => "tuple" | .str => "str" | .int => "int" | .abs => "abs" | .lenset => "set" | .srtset => "set"
def bi2Name : Bi2 → Str | .min => "min" | .max => "max"
def tyName : Ty → Str | .int => "int" | .bool => "bool" | .list => "list" | .str => "str"
def meName : Me → Str | .index => "index" | .count => "count" | .join => "join" | .split => "split"

/-- a receiver that is no call of a name without arguments -/
def recvOk : Expr → Bool
  | .Name .. => true | .Subscript .. => true | .Call (.Name _ _) (_ :: _) [] _ => true | .Attribute .. => true | .Constant .. => true | _ => false
def isNm : Expr → Bool | .Name .. => true | _ => false
def rdF : List Str := ["lists", "depths", "made"]
structure Ct where
  N : List Str
  sc : Scope
  fn : Str → Bool
  M : List Nat
  fns : List Str
  free : List Str
  cons : List (Str × D)
  cls : List Str
  ms : List (Nat × Str)
  rdm : List (Nat × Str)
  tr : Bool
  rd : Bool

def Ct.isVar (C : Ct) (i : Nat) (x : Str) : Bool := decide (C.N[i]? = some x) &&
  (match C.sc.names.lookup x with
   | some .local => true | some .cell => true | some .free => true | _ => false) && !(x == ("__debug__" : Str)) && !(x == ("__classdict__" : Str))
def Ct.isTg (C : Ct) (i : Nat) (x : Str) : Bool := decide (C.N[i]? = some x) &&
  (match C.sc.names.lookup x with
   | some .local => true | some .cell => C.fn x | _ => false)
def Ct.isGl (C : Ct) (x : Str) : Bool := (match C.sc.names.lookup x with
   | some .globalImplicit => true | _ => false) && !(x == ("__debug__" : Str)) && !(x == ("__name__" : Str))
def Ct.isB (C : Ct) (x y : Str) : Bool := x == y && C.isGl x && C.free.contains x
def Ct.isF (C : Ct) (n : Nat) (x : Str) : Bool := C.isGl x && decide (C.fns[n]? = some x) && !(x == ("" : Str))
def xcN : List Str := ["BadList", "BadNumber", "BadRow", "BadShort", "BadText", "NotFound", "ListError"]

def litIs : D → D → Bool
  | .non, .non => true
  | .bl a, .bl b => a == b
  | .int a, .int b => a == b
  | .str a, .str b => a == b
  | _, _ => false

/-- the flavour: a borrowed local; anything; a new object where it is a list -/
inductive Fl | bor | any | new
def Fl.isB : Fl → Bool | .bor => true | _ => false
def fl : Ex → Fl
  | .bvar _ => .bor
  | .list _ => .new
  | .comp .. => .new
  | .lrng _ => .new
  | .slice .. => .new
  | .rev _ => .new
  | .bin .. => .new
  | .b1 .list _ => .new
  | .b1 .sorted _ => .new
  | _ => .any
def isBor : Ex → Bool | .bvar _ => true | _ => false

def isIte : Ex → Bool | .ife .. => true | _ => false
def noIte : Ex → Bool
  | .cons a r => !isIte a && noIte r
  | _ => true
/-- logic: told by tests of its own -/
def isLog : Ex → Bool
  | .not _ => true | .ands _ => true | .ors _ => true | .cmp .. => true | .cmpc .. => true | .chain .. => true | .chain3 .. => true | .isn _ => true | .nisn _ => true | .ife .. => true
  | _ => false

def mtTgs (C : Ct) : List Nat → List Expr → Bool
  | [], [] => true
  | i :: is, e :: es => (match dName e with
      | some x => C.isTg i x && !C.M.contains i
      | none => false) && mtTgs C is es
  | _, _ => false
def mtTg (C : Ct) : Tg → Expr → Bool
  | .one i, e => (match dName e with
      | some x => C.isTg i x && !C.M.contains i
      | none => false)
  | .tup is, e => (match dTup e with
      | some es => mtTgs C is es
      | none => false)
def tgIn : Tg → List Nat → Bool
  | .one i, o => o.contains i
  | .tup is, o => is.all o.contains
def isTup : Tg → Bool | .tup _ => true | .one _ => false

mutual
def mtE (C : Ct) : Ex → Expr → Bool
  | .var i, e => (match dName e with
      | some x => C.isVar i x && !C.M.contains i
      | none => false)
  | .bvar i, e => (match dName e with
      | some x => C.isVar i x && C.M.contains i
      | none => false)
  | .lit d, e => (match dCst e with
      | some c => litIs d c
      | none => false)
  | .gcon x d, e => (match dName e with
      | some y => x == y && C.isGl x && C.cons.any (fun p => p.1 == x && litIs p.2 d)
      | none => false)
  | .bin o a b, e => (match dBin e with
      | some (l, op, r) => bopIs o op && mtE C a l && mtE C b r
      | none => false)
  | .neg a, e => (match dUn e with
      | some (.USub, x) => mtE C a x
      | _ => false)
  | .not a, e => (match dUn e with
      | some (.Not, x) => mtE C a x && !isIte a
      | _ => false)
  | .ands es, e => (match dBool e with
      | some (.And, xs) => !xs.isEmpty && mtEs C es xs && noIte es
      | _ => false)
  | .ors es, e => (match dBool e with
      | some (.Or, xs) => !xs.isEmpty && mtEs C es xs && noIte es
      | _ => false)
  | .cmp o a b, e => (match dCmp e with
      | some (l, [op], [r]) => copIs o op && mtE C a l && mtE C b r
      | _ => false)
  | .cmpc o a b, e => (match dCmp e with
      | some (l, [op], [r]) => copIs o op && mtE C a l && mtE C b r
      | _ => false)
  | .chain o p a b c, e => (match dCmp e with
      | some (x, [op, oq], [y, z]) => copIs o op && copIs p oq && mtE C a x && mtE C b y && mtE C c z
      | _ => false)
  | .chain3 o p q a b c d, e => (match dCmp e with
      | some (x, [op, oq, or], [y, z, w]) => copIs o op && copIs p oq && copIs q or && mtE C a x && mtE C b y && mtE C c z && mtE C d w
      | _ => false)
  | .isn a, e => (match dCmp e with
      | some (x, [.Is], [n]) => mtE C a x && (match dCst n with | some .non => true | _ => false)
      | _ => false)
  | .nisn a, e => (match dCmp e with
      | some (x, [.IsNot], [n]) => mtE C a x && (match dCst n with | some .non => true | _ => false)
      | _ => false)
  | .ife c a b, e => (match dIf e with
      | some (x, y, z) => mtE C c x && mtE C a y && mtE C b z && !isBor a && !isBor b && !isIte c
      | none => false)
  | .list es, e => (match dList e with
      | some xs => mtEs C es xs && noBor es && decide (xs.length ≤ 100)
      | none => false)
  | .clist es, e => (match dList e with
      | some xs => mtEs C es xs && noBor es && decide (xs.length ≤ 100)
      | none => false)
  | .tuple es, e => (match dTup e with
      | some xs => mtEs C es xs && noBor es && decide (xs.length ≤ 100)
      | none => false)
  | .sub a i, e => (match dSub e with
      | some (x, y) => mtE C a x && mtE C i y
      | none => false)
  | .slice a lo hi, e => (match dSub e with
      | some (x, y) => (match dSlice y with
        | some (l, h, none) => mtE C a x && mtO C lo l && mtO C hi h
        | _ => false)
      | none => false)
  | .rev a, e => (match dSub e with
      | some (x, y) => (match dSlice y with
        | some (none, none, some s) => mtE C a x && (match dUn s with
          | some (.USub, n) => (match dCst n with | some (.int 1) => true | _ => false)
          | _ => false)
        | _ => false)
      | none => false)
  | .comp elt tg it cond own, e => (match dComp e with
      | some (x, t, i, c, s) =>
        let ow := own.map fun k => (C.N.getD k "", k)
        let B : Ct := { C with sc := relS s C.sc, fn := fun x => s.names.lookup x == some .cell }
        blkC C.N C.sc s ow && tgIn tg own && own.all (fun k => !C.M.contains k) && mtI C tg it i && mtTg B tg t && mtC B cond c && mtE B elt x && !isBor elt
      | none => false)
  | .call n es, e => (match dCall e with
      | some (f, xs) => C.isF n f && mtEs C es xs && noBor es
      | none => false)
  | .callb n es, e => (match dCall e with
      | some (f, xs) => C.isF n f && mtEs C es xs && !xs.isEmpty
      | none => false)
  | .b1 o a, e => (match o with
    | .lenset => (match dCall e with
      | some (f, [x]) => C.isB f "len" && (match dCall x with
        | some (s, [y]) => C.isB s "set" && mtE C a y
        | _ => false)
      | _ => false)
    | .srtset => (match dCall e with
      | some (f, [x]) => C.isB f "sorted" && (match dCall x with
        | some (s, [y]) => C.isB s "set" && mtE C a y
        | _ => false)
      | _ => false)
    | _ => (match dCall e with
      | some (f, [x]) => C.isB f (bi1Name o) && mtE C a x
      | _ => false))
  | .b2 o a b, e => (match dCall e with
      | some (f, [x, y]) => C.isB f (bi2Name o) && mtE C a x && mtE C b y
      | _ => false)
  | .lrng a, e => (match dCall e with
      | some (f, [x]) => C.isB f "list" && (match dCall x with
        | some (s, [y]) => C.isB s "range" && mtE C a y
        | _ => false)
      | _ => false)
  | .clistof a, e => (match dCall e with
      | some (f, [x]) => C.isB f "list" && mtE C a x
      | _ => false)
  | .isI t a, e => (match dCall e with
      | some (f, [x, y]) => C.isB f "isinstance" && mtE C a x && (match dName y with
        | some n => C.isB n (tyName t)
        | none => false)
      | _ => false)
  | .isX c a, e => (match dCall e with
      | some (f, [x, y]) => C.isB f "isinstance" && mtE C a x && C.tr && (match dName y with
        | some n => (C.isGl n && decide (xcN[c]? = some n)) || (decide (c = 7) && C.isB n "ValueError")
        | none => false)
      | _ => false)
  | .meth o a b, e => (match dMeth e with
      | some (x, m, [y]) => m == meName o && mtE C a x && mtE C b y && recvOk x
      | _ => false)
  | .fld a i, e => (match dAttr e with
      | some (x, f) => decide (rdF[i]? = some f) && mtE C a x && isNm x && C.rd
      | none => false)
  | .mcall n a es, e => (match dMeth e with
      | some (x, m, xs) => C.ms.contains (n, m) && mtE C a x && mtEs C es xs && noBor es && isNm x && decide (xs.length < 20)
      | none => false)
  | .make n es, e => (match dCall e with
      | some (f, xs) => C.rdm.contains (n, f) && C.isGl f && mtEs C es xs && noBor es && decide (xs.length = 2)
      | none => false)
  | .popc a, e => (match dMeth e with
      | some (x, m, []) => m == ("pop" : Str) && mtE C a x && recvOk x
      | _ => false)
  | .lenr n a, e => (match dCall e with
      | some (f, [x]) => C.isB f "len" && C.ms.contains (n, "__len__") && mtE C a x
      | _ => false)
  | _, _ => false
def mtEs (C : Ct) : Ex → List Expr → Bool
  | .nil, [] => true
  | .cons a r, e :: es => mtE C a e && mtEs C r es
  | _, _ => false
def noBor : Ex → Bool
  | .cons a r => !isBor a && noBor r
  | _ => true
def mtO (C : Ct) : Ex → Option Expr → Bool
  | .absent, none => true
  | .opt a, some e => mtE C a e
  | _, _ => false
def mtC (C : Ct) : Ex → List Expr → Bool
  | .absent, [] => true
  | .opt a, [e] => mtE C a e && !isIte a
  | _, _ => false
def mtI (C : Ct) (tg : Tg) : Ex → Expr → Bool
  | .iof a, e => mtE C a e
  | .itup a, e => mtE C a e
  | .istr a, e => mtE C a e
  | .irng1 a, e => (match dCall e with
      | some (f, [x]) => C.isB f "range" && mtE C a x
      | _ => false)
  | .irng2 a b, e => (match dCall e with
      | some (f, [x, y]) => C.isB f "range" && mtE C a x && mtE C b y
      | _ => false)
  | .ienum a, e => (match dCall e with
      | some (f, [x]) => C.isB f "enumerate" && isTup tg && mtE C a x
      | _ => false)
  | .izip a b, e => (match dCall e with
      | some (f, [x, y]) => C.isB f "zip" && isTup tg && mtE C a x && mtE C b y
      | _ => false)
  | _, _ => false
end

def borI' : Ex → Bool
  | .iof a => isBor a
  | .ienum a => isBor a
  | .izip a b => isBor a || isBor b
  | _ => false
/-! ### statements -/
/-- except x as n: y = m -/
def dHand : List ExceptHandler → Option (Str × Str × Str × Str)
  | [.ExceptHandler (some (.Name x _)) (some n) [.Assign [.Name y _] (.Name m _) _] _] => some (x, n, y, m)
  | _ => none
theorem dHand_eq {l : List ExceptHandler} {r} (h : dHand l = some r) : ∃ p1 p2 p3 p4 p5, l = [.ExceptHandler (some (.Name r.1 p1)) (some r.2.1) [.Assign [.Name r.2.2.1 p2] (.Name r.2.2.2 p3) p4] p5] := by
  unfold dHand at h
  split at h
  · cases h; exact ⟨_, _, _, _, _, rfl⟩
  · cases h
def isLC : Expr → Bool | .ListComp .. => true | .SetComp .. => true | .DictComp .. => true | _ => false
def isTupE : Expr → Bool | .Tuple .. => true | _ => false
/-- whether name = [..] swaps -/
def swB (C : Ct) (e : Expr) (t : Str) (p : Pos) (line : Nat) : Bool := match e with
  | .ListComp _ _ s q => (match C.sc.names.lookup t with | some .local => true | _ => false) && p.line == q.line && !(s.names.any fun (n, k) => n == t && (k == .local || k == .cell))
  | _ => false
def isStarE : Expr → Bool | .Starred .. => true | _ => false
def swNames (C : Ct) (ts : List Expr) (line : Nat) : List Str := ts.filterMap fun
    | .Name id pos => if C.sc.names.lookup id == some .local && pos.line == line then some id else none
    | _ => none
/-- whether a, b = x, y swaps; none: the model does not say -/
def swK (C : Ct) (ts vs : List Expr) : Option Bool :=
  if !(ts.length == 2 || ts.length == 3) || vs.length != ts.length then some false
  else if vs.any (fun | .Starred .. => true | _ => false) then some false
  else
    let names := swNames C ts ((ts.head?.map (·.pos.line)).getD 0)
    if names.length != ts.length || names.eraseDups.length != names.length then some false
    else if vs.all (foldedForSure 8) then some false
    else if vs.all (constantsAlone 8) then none
    else some true
def opIs : Bop → Operator → Bool
  | .add, .Add | .sub, .Sub | .mul, .Mult => true
  | _, _ => false
def mtNews (C : Ct) : List Nat → List Expr → List Expr → Bool
  | [], [], [] => true
  | i :: is, t :: ts, v :: vs => (match dName t with
      | some x => C.isTg i x && C.M.contains i
      | none => false) && (match dList v with
      | some [] => true
      | _ => false) && mtNews C is ts vs
  | _, _, _ => false
mutual
def mtS (C : Ct) : St → Stmt → Bool
  | .die, _ => true
  | .pass, .Pass _ => true
  | .brk, .Break _ => true
  | .cnt, .Continue _ => true
  | .retn, .Return none _ => true
  | .ret x, .Return (some e) _ => mtE C x e && !isBor x
  | .retm i, .Return (some e) _ => (match dName e with
      | some x => C.isVar i x && C.M.contains i
      | none => false)
  | .rett es, .Return (some e) _ => (match dTup e with
      | some xs => mtEs C es xs && decide (xs.length ≤ 100)
      | none => false)
  | .newm is, .Assign [t] e _ => (match dTup t, dTup e with
      | some ts, some vs => mtNews C is ts vs && decide (swK C ts vs = some true) && decide (is.length = 3) && decide (is.Nodup)
      | _, _ => false)
  | .asg i x, .Assign [t] e _ => (match dName t with
      | some n => C.isTg i n && !C.M.contains i && mtE C x e && !isBor x
      | none => false)
  | .asgm i x, .Assign [t] e _ => (match dName t with
      | some n => C.isTg i n && C.M.contains i && mtE C x e && (match fl x with | .new => true | _ => false)
      | none => false)
  | .mov i j, .Assign [t] e _ => (match dName t, dName e with
      | some n, some m => C.isTg i n && !C.M.contains i && C.isVar j m && C.M.contains j
      | _, _ => false)
  | .unp is x, .Assign [t] e _ => mtTg C (.tup is) t && mtE C x e && !isTupE e && !isBor x && !isLC e
  | .par is es, .Assign [t] e _ => (match dTup t, dTup e with
      | some ts, some vs => mtTgs C is ts && mtEs C es vs && noBor es && (swK C ts vs).isSome && decide (vs.length ≤ 100) && decide (is.Nodup)
      | _, _ => false)
  | .aug i o x, .AugAssign t op e _ => (match dName t with
      | some n => C.isTg i n && C.isVar i n && !C.M.contains i && opIs o op && mtE C x e
      | none => false)
  | .augs i k o x, .AugAssign t op e _ => (match dSub t with
      | some (w, y) => (match dName w with
        | some n => C.isVar i n && C.M.contains i && mtE C k y && opIs o op && mtE C x e
        | none => false)
      | none => false)
  | .augc a k o x, .AugAssign t op e _ => (match dSub t with
      | some (w, y) => mtE C a w && mtE C k y && opIs o op && mtE C x e
      | none => false)
  | .tryc b i j, .Try body hs [] [] _ => (match dHand hs with
      | some (x, n, y, m) => x == ("ListError" : Str) && C.isGl x && C.tr && C.isTg i n && decide (C.sc.names.lookup n = some .local) && m == n && !(n == ("__debug__" : Str)) && !(n == ("__classdict__" : Str)) &&
        C.isTg j y && decide (C.sc.names.lookup y = some .local) && !C.M.contains i && !C.M.contains j && decide (i ≠ j) && mtSs C b body
      | none => false)
  | .seti i k x, .Assign [t] e _ => (match dSub t with
      | some (o, y) => (match dName o with
        | some n => C.isVar i n && C.M.contains i && mtE C k y && mtE C x e && !isBor x && !isLC e && !isTupE e
        | none => false)
      | none => false)
  | .set2 i k1 k2 x1 x2, .Assign [t] e _ => (match dTup t, dTup e with
      | some [t1, t2], some [v1, v2] => (match dSub t1, dSub t2 with
        | some (o1, y1), some (o2, y2) => (match dName o1, dName o2 with
          | some n1, some n2 => C.isVar i n1 && C.isVar i n2 && C.M.contains i && mtE C k1 y1 && mtE C k2 y2 && mtE C (.tuple (.cons x1 (.cons x2 .nil))) e && decide (swK C [t1, t2] [v1, v2] = some false) && (match k1, k2 with | .var _, .var _ => true | _, _ => false)
          | _, _ => false)
        | _, _ => false)
      | _, _ => false)
  | .setc a k x, .Assign [t] e _ => (match dSub t with
      | some (o, y) => mtE C a o && mtE C k y && mtE C x e && !isBor x && !isLC e && !isTupE e
      | none => false)
  | .app i x, .Expr e _ => (match dMeth e with
      | some (o, m, [y]) => (match dName o with
        | some n => C.isVar i n && C.M.contains i && m == ("append" : Str) && mtE C x y && !isBor x
        | none => false)
      | _ => false)
  | .appc a x, .Expr e _ => (match dMeth e with
      | some (o, m, [y]) => mtE C a o && m == ("append" : Str) && mtE C x y && !isBor x && recvOk o
      | _ => false)
  | .rmv i x, .Expr e _ => (match dMeth e with
      | some (o, m, [y]) => (match dName o with
        | some n => C.isVar i n && C.M.contains i && m == ("remove" : Str) && mtE C x y
        | none => false)
      | _ => false)
  | .ife c s r, .If e p q _ => mtE C c e && !isIte c && mtSs C s p && mtSs C r q
  | .whl _ c s, .While e p [] _ => mtE C c e && !isIte c && mtSs C s p
  | .forr tg it s, .For t e p [] _ => mtI C tg it e && !borI' it && mtTg C tg t && mtSs C s p
  | .exp x, .Expr e _ => mtE C x e && !isLC e
  | .raise c, .Raise (some e) none _ => (match dCall e with
      | some (f, [m]) => decide (C.cls[c]? = some f) && C.isGl f && !(f == ("" : Str)) && (match dCst m with | some (.str _) => true | _ => false)
      | _ => false)
  | _, _ => false
def mtSs (C : Ct) : St → List Stmt → Bool
  | .nil, [] => true
  | .cons s r, t :: ts => mtS C s t && mtSs C r ts
  | _, _ => false
end
/-! ### what the tests of the syntax say -/
theorem dName_eq {e : Expr} {x : Str} (h : dName e = some x) : ∃ p, e = .Name x p := by
  cases e <;> simp [dName] at h; subst h; exact ⟨_, rfl⟩
theorem dBin_eq {e : Expr} {x} (h : dBin e = some x) : ∃ p, e = .BinOp x.1 x.2.1 x.2.2 p := by
  cases e <;> simp [dBin] at h; subst h; exact ⟨_, rfl⟩
theorem dUn_eq {e : Expr} {x} (h : dUn e = some x) : ∃ p, e = .UnaryOp x.1 x.2 p := by
  cases e <;> simp [dUn] at h; subst h; exact ⟨_, rfl⟩
theorem dBool_eq {e : Expr} {x} (h : dBool e = some x) : ∃ p, e = .BoolOp x.1 x.2 p := by
  cases e <;> simp [dBool] at h; subst h; exact ⟨_, rfl⟩
theorem dCmp_eq {e : Expr} {x} (h : dCmp e = some x) : ∃ p, e = .Compare x.1 x.2.1 x.2.2 p := by
  cases e <;> simp [dCmp] at h; subst h; exact ⟨_, rfl⟩
theorem dIf_eq {e : Expr} {x} (h : dIf e = some x) : ∃ p, e = .IfExp x.1 x.2.1 x.2.2 p := by
  cases e <;> simp [dIf] at h; subst h; exact ⟨_, rfl⟩
theorem dList_eq {e : Expr} {x} (h : dList e = some x) : ∃ p, e = .List x p := by
  cases e <;> simp [dList] at h; subst h; exact ⟨_, rfl⟩
theorem dTup_eq {e : Expr} {x} (h : dTup e = some x) : ∃ k p, e = .Tuple x k p := by
  cases e <;> simp [dTup] at h; subst h; exact ⟨_, _, rfl⟩
theorem dSub_eq {e : Expr} {x} (h : dSub e = some x) : ∃ p, e = .Subscript x.1 x.2 p := by
  cases e <;> simp [dSub] at h; subst h; exact ⟨_, rfl⟩
theorem dSlice_eq {e : Expr} {x} (h : dSlice e = some x) : ∃ p, e = .Slice x.1 x.2.1 x.2.2 p := by
  cases e <;> simp [dSlice] at h; subst h; exact ⟨_, rfl⟩
theorem dAttr_eq {e : Expr} {x} (h : dAttr e = some x) : ∃ p, e = .Attribute x.1 x.2 p := by
  cases e <;> simp [dAttr] at h; subst h; exact ⟨_, rfl⟩
theorem dCall_eq {e : Expr} {x} (h : dCall e = some x) : ∃ p q, e = .Call (.Name x.1 p) x.2 [] q := by
  unfold dCall at h
  split at h
  · cases h; exact ⟨_, _, rfl⟩
  · cases h
theorem dMeth_eq {e : Expr} {x} (h : dMeth e = some x) : ∃ p q, e = .Call (.Attribute x.1 x.2.1 p) x.2.2 [] q ∧ (p.endLine == q.line) = true := by
  unfold dMeth at h
  split at h
  · split at h
    · cases h; exact ⟨_, _, rfl, by assumption⟩
    · cases h
  · cases h
theorem dComp_eq {e : Expr} {x} (h : dComp e = some x) : ∃ p, e = .ListComp x.1 [⟨x.2.1, x.2.2.1, x.2.2.2.1, 0⟩] x.2.2.2.2 p := by
  unfold dComp at h
  split at h
  · cases h; exact ⟨_, rfl⟩
  · cases h
end Tv

set_option Elab.async false
set_option linter.all false
set_option maxRecDepth 100000
/-! Lists of ints: which is the less. -/
namespace Tv
open PySem PySem.Spec PyProof.Rows L2

theorem firstLt_map {e r : Nat → Bool} {fin : Bool} (f : Nat → Nat) : ∀ l : List Nat, SeqAt.firstLt e r fin (l.map f) = SeqAt.firstLt (fun j => e (f j)) (fun j => r (f j)) fin l
  | [] => rfl
  | j :: l => by
    show (if e (f j) = true then SeqAt.firstLt e r fin (l.map f) else r (f j)) = if e (f j) = true then _ else r (f j)
    rw [firstLt_map f l]
theorem firstLt_is : ∀ ns ms : List Int, SeqAt.firstLt (fun j => decide (ns.getD j 0 = ms.getD j 0)) (fun j => decide (ns.getD j 0 < ms.getD j 0)) (decide (ns.length < ms.length)) (List.range (min ns.length ms.length)) = ltIs ns ms
  | [], [] => rfl
  | [], y :: t => by simp [SeqAt.firstLt, ltIs]
  | x :: r, [] => by simp [SeqAt.firstLt, ltIs]
  | x :: r, y :: t => by
    have ih := firstLt_is r t
    rw [show min (x :: r).length (y :: t).length = min r.length t.length + 1 by simp only [List.length_cons]; omega, List.range_succ_eq_map]
    show (if decide (x = y) = true then SeqAt.firstLt _ _ _ ((List.range (min r.length t.length)).map Nat.succ) else decide (x < y)) = ltIs (x :: r) (y :: t)
    rw [firstLt_map]
    have e3 : decide ((x :: r).length < (y :: t).length) = decide (r.length < t.length) := by
      simp only [List.length_cons]
      exact decide_eq_decide.mpr (by omega)
    rw [e3]
    unfold ltIs
    by_cases h : x = y
    · rw [if_pos h, if_pos (decide_eq_true h)]
      exact ih
    · rw [if_neg h, if_neg (by simpa using h)]
def rLtL (K : PySem.W.Frag) : R2 := fun x y H Q => ∃ (a b : Addr) (ns ms : List Int), x = .ref a ∧ y = .ref b ∧ SqL K H a (ns.map V.int) ∧ SqL K H b (ms.map V.int) ∧ Q (.bl (ltIs ns ms)) H
theorem op_ltL {X : Cx} (hu : X.A.units < cLine) : OpR X (compareOp .Lt) (rLtL X.K) := by
  intro pins s σ H x y v u Q I rx ry h
  obtain ⟨a, b, ns, ms, rfl, rfl, ha, hb, q⟩ := h
  cases rx
  cases ry
  obtain ⟨its, r1, p1, _⟩ := I.list ha
  obtain ⟨its2, r2, p2, _⟩ := I.list hb
  have i1 : IntsAre its ns := ints_of_vals r1
  have i2 : IntsAre its2 ms := ints_of_vals r2
  have e1 : its.toArray.size = ns.length := by rw [List.size_toArray]; exact i1.length
  have e2 : its2.toArray.size = ms.length := by rw [List.size_toArray]; exact i2.length
  have at1 : ∀ j (h1 : j < its.toArray.size), ∃ t, its.toArray[j] = .int (ns.getD j 0) t := fun j h1 => PyProof.Rows.IntsAre.int_at i1 _ _ (by simp at h1; simp [h1])
  have at2 : ∀ j (h1 : j < its2.toArray.size), ∃ t, its2.toArray[j] = .int (ms.getD j 0) t := fun j h1 => PyProof.Rows.IntsAre.int_at i2 _ _ (by simp at h1; simp [h1])
  have R := SeqAt.RcLt.lists (A := X.A) (s := s) (e := fun j => decide (ns.getD j 0 = ms.getD j 0)) (r := fun j => decide (ns.getD j 0 < ms.getD j 0)) p1.isList p2.isList hu (fun j h1 h2 => by
    obtain ⟨t, et⟩ := at1 j h1
    obtain ⟨t', et'⟩ := at2 j h2
    rw [et, et']
    have z : (ns.getD j 0 == ms.getD j 0) = decide (ns.getD j 0 = ms.getD j 0) := by
      by_cases q : ns.getD j 0 = ms.getD j 0
      · rw [decide_eq_true q]; exact beq_iff_eq.mpr q
      · rw [decide_eq_false q]; exact beq_eq_false_iff_ne.mpr q
    rw [← z]
    exact SeqAt.EqAt.int_int _ _ _ _) (fun j h1 h2 _ => by
    obtain ⟨t, et⟩ := at1 j h1
    obtain ⟨t', et'⟩ := at2 j h2
    rw [et, et']
    exact fun _ _ _ _ h => PyProof.Rows.lt_int h)
  rw [e1, e2, firstLt_is] at R
  have z : wpAny (model X.prog X.w) X.A (compareOp .Lt (.ref a) (.ref b)) (EP X pins σ Q) X.xe s := R X.prog X.w X.xe (EP X pins σ Q) ⟨.bl _, H, I, rfl, q⟩
  exact z
end Tv

set_option Elab.async false
set_option linter.all false
set_option maxRecDepth 100000
/-! The operations by values. -/
namespace Tv
open PySem PySem.Spec PyProof.Rows L2

mutual
def toPy : D → PyData
  | .non => .none
  | .bl b => .bool b
  | .int i => .int i
  | .str s => .str s
  | .lst xs => .list (toPyL xs)
  | .tup xs => .tuple (toPyL xs)
  | .exc _ => .none
  | .cell _ => .none
  | .scr _ => .none
  | .ins _ => .none
def toPyL : List D → List PyData
  | [] => []
  | x :: xs => toPy x :: toPyL xs
end
section
variable {K : PySem.W.Frag} {XR : Nat → Addr → Hp → Prop} {F : Addr → Prop} {γ : List Addr} {H : Hp}
mutual
theorem dp_of : ∀ (n : Nat) (d : D) (v : V), pln n d = true → Rp K XR F γ H d v → Dp K H v (toPy d)
  | _, .non, v, _, h => by unfold Rp at h; subst h; exact .non
  | _, .bl b, v, _, h => by unfold Rp at h; subst h; exact .bl b
  | _, .int b, v, _, h => by unfold Rp at h; subst h; exact .int b
  | _, .str b, v, _, h => by unfold Rp at h; subst h; exact .str b
  | 0, .lst ds, v, p, h => by simp [pln] at p
  | 0, .tup ds, v, p, h => by simp [pln] at p
  | n + 1, .lst ds, v, p, h => by
    unfold Rp at h
    obtain ⟨a, xs, rfl, ⟨e, _⟩, r⟩ := h
    exact .lst (SqL.of e) (dpl_of n ds xs (by simpa [pln] using p) r)
  | n + 1, .tup ds, v, p, h => by
    unfold Rp at h
    obtain ⟨a, xs, rfl, e, r⟩ := h
    exact .tup e (dpl_of n ds xs (by simpa [pln] using p) r)
  | 0, .exc _, v, p, _ => by simp [pln] at p
  | 0, .cell _, v, p, _ => by simp [pln] at p
  | 0, .scr _, v, p, _ => by simp [pln] at p
  | 0, .ins _, v, p, _ => by simp [pln] at p
  | n + 1, .ins _, v, p, _ => by simp [pln] at p
  | n + 1, .exc _, v, p, _ => by simp [pln] at p
  | n + 1, .cell _, v, p, _ => by simp [pln] at p
  | n + 1, .scr _, v, p, _ => by simp [pln] at p
theorem dpl_of : ∀ (n : Nat) (ds : List D) (xs : List V), plnL n ds = true → RpL K XR F γ H ds xs → DpAll K H xs (toPyL ds)
  | _, [], xs, _, h => by unfold RpL at h; subst h; exact .nil
  | n, d :: ds, xs, p, h => by
    unfold RpL at h
    obtain ⟨v, r, rfl, h1, h2⟩ := h
    have p' : pln n d = true ∧ plnL n ds = true := by simpa [plnL] using p
    exact .cons (dp_of n d v p'.1 h1) (dpl_of n ds r p'.2 h2)
end
end
mutual
theorem eqD_py : ∀ (n m : Nat) (a b : D), pln n a = true → pln m b = true → eqD a b = PyData.eqv (toPy a) (toPy b)
  | n, m, a, b, ha, hb => by
    cases a <;> cases b <;> first
      | rfl
      | (simp only [eqD, toPy, PyData.eqv]; done)
      | (cases n <;> simp [pln] at ha; done)
      | (cases m <;> simp [pln] at hb; done)
      | (cases n with
        | zero => simp [pln] at ha
        | succ n => cases m with
          | zero => simp [pln] at hb
          | succ m =>
            simp only [eqD, toPy, PyData.eqv]
            exact eqL_py n m _ _ (by simpa [pln] using ha) (by simpa [pln] using hb))
theorem eqL_py : ∀ (n m : Nat) (a b : List D), plnL n a = true → plnL m b = true → eqL a b = PyData.eqvAll (toPyL a) (toPyL b)
  | _, _, [], [], _, _ => rfl
  | _, _, [], _ :: _, _, _ => rfl
  | _, _, _ :: _, [], _, _ => rfl
  | n, m, x :: xs, y :: ys, ha, hb => by
    have ha' : pln n x = true ∧ plnL n xs = true := by simpa [plnL] using ha
    have hb' : pln m y = true ∧ plnL m ys = true := by simpa [plnL] using hb
    simp only [eqL, toPyL, PyData.eqvAll]
    rw [eqD_py n m x y ha'.1 hb'.1, eqL_py n m xs ys ha'.2 hb'.2]
end
mutual
theorem shp : ∀ (n : Nat) (d : D), pln n d = true → (toPy d).canLay0 = true ∧ (toPy d).depth ≤ n
  | n, .non, _ => ⟨rfl, Nat.zero_le _⟩
  | n, .bl _, _ => ⟨rfl, Nat.zero_le _⟩
  | n, .int _, _ => ⟨rfl, Nat.zero_le _⟩
  | n, .str s, h => ⟨by
      have h' : s.cps.all (· < 0x110000) = true := by cases n <;> simpa [pln] using h
      exact h', Nat.zero_le _⟩
  | 0, .lst ds, h => by simp [pln] at h
  | 0, .tup ds, h => by simp [pln] at h
  | n + 1, .lst ds, h => by
    obtain ⟨h1, h2⟩ := shpL n ds (by simpa [pln] using h)
    exact ⟨by simpa [toPy, PyData.canLay0] using h1, by simpa [toPy, PyData.depth] using h2⟩
  | n + 1, .tup ds, h => by
    obtain ⟨h1, h2⟩ := shpL n ds (by simpa [pln] using h)
    exact ⟨by simpa [toPy, PyData.canLay0] using h1, by simpa [toPy, PyData.depth] using h2⟩
  | n, .exc _, h => by cases n <;> simp [pln] at h
  | n, .cell _, h => by cases n <;> simp [pln] at h
  | n, .scr _, h => by cases n <;> simp [pln] at h
  | n, .ins _, h => by cases n <;> simp [pln] at h
theorem shpL : ∀ (n : Nat) (ds : List D), plnL n ds = true → PyData.canLayAll0 (toPyL ds) = true ∧ PyData.depthAll (toPyL ds) ≤ n
  | n, [], _ => ⟨rfl, Nat.zero_le _⟩
  | n, d :: ds, h => by
    have h' : pln n d = true ∧ plnL n ds = true := by simpa [plnL] using h
    obtain ⟨a1, a2⟩ := shp n d h'.1
    obtain ⟨b1, b2⟩ := shpL n ds h'.2
    refine ⟨by simp [toPyL, PyData.canLayAll0, a1, b1], ?_⟩
    simp only [toPyL, PyData.depthAll]
    exact Nat.max_le.mpr ⟨a2, b2⟩
end
theorem shaped_of {d : D} (h : pln 8 d = true) : SeqAt.shaped (toPy d) = true := by
  obtain ⟨h1, h2⟩ := shp 8 d h
  unfold SeqAt.shaped
  rw [h1, Bool.true_and]
  exact decide_eq_true (by omega)
theorem shapedL_of {ds : List D} (h : plnL 8 ds = true) : SeqAt.shaped (.list (toPyL ds)) = true := by
  obtain ⟨h1, h2⟩ := shpL 8 ds h
  unfold SeqAt.shaped
  have e : (PyData.list (toPyL ds)).canLay0 = true := by simpa [PyData.canLay0] using h1
  rw [e, Bool.true_and]
  refine decide_eq_true ?_
  show PyData.depthAll (toPyL ds) + 1 ≤ 64
  omega

/-! ### operands, results -/
section
variable (K : PySem.W.Frag) (XR : Nat → Addr → Hp → Prop) (F : Addr → Prop) (γ : List Addr) (H : Hp)
/-- as an operand: a list whoever owns it -/
def OpV : D → V → Prop
  | .lst ds, v => ∃ a xs, v = .ref a ∧ H a = some (.lst xs) ∧ RpL K XR F γ H ds xs
  | d, v => Rp K XR F γ H d v
/-- what an operation makes: a plain value, or a new list -/
def Got (d : D) (v : V) (H' : Hp) : Prop :=
  (scal d = true ∧ H' = H ∧ Rp K XR F γ H d v) ∨ ∃ p xs ds, H p = none ∧ H' = upd H p (.lst xs) ∧ v = .ref p ∧ d = .lst ds ∧ RpL K XR F γ H ds xs
end
section
variable {X : Cx} {K : PySem.W.Frag} {XR : Nat → Addr → Hp → Prop} {F : Addr → Prop} {γ : List Addr} {H : Hp}
theorem OpV.of {d : D} {v : V} (h : Rp K XR F γ H d v) : OpV K XR F γ H d v := by
  cases d with
  | lst ds =>
    unfold Rp at h
    obtain ⟨a, xs, e, ⟨h1, _⟩, r⟩ := h
    exact ⟨a, xs, e, h1, r⟩
  | _ => exact h
theorem OpV.int {i : Int} {v : V} (h : OpV K XR F γ H (.int i) v) : v = .int i := by unfold OpV Rp at h; exact h
theorem OpV.str {i : Str} {v : V} (h : OpV K XR F γ H (.str i) v) : v = .str i := by unfold OpV Rp at h; exact h
theorem OpV.bl {i : Bool} {v : V} (h : OpV K XR F γ H (.bl i) v) : v = .bl i := by unfold OpV Rp at h; exact h
theorem OpV.lst {ds : List D} {v : V} (h : OpV K XR F γ H (.lst ds) v) : ∃ a xs, v = .ref a ∧ H a = some (.lst xs) ∧ RpL K XR F γ H ds xs := h
theorem OpV.dp {n : Nat} {d : D} {v : V} (p : pln n d = true) (h : OpV K XR F γ H d v) : Dp K H v (toPy d) := by
  cases d with
  | lst ds =>
    obtain ⟨a, xs, rfl, e, r⟩ := h
    cases n with
    | zero => simp [pln] at p
    | succ n => exact .lst (SqL.of e) (dpl_of n ds xs (by simpa [pln] using p) r)
  | _ => exact dp_of (XR := XR) (F := F) (γ := γ) n _ v p h
theorem Rp.int {i : Int} : Rp K XR F γ H (.int i) (.int i) := by unfold Rp; rfl
theorem Rp.str {i : Str} : Rp K XR F γ H (.str i) (.str i) := by unfold Rp; rfl
theorem Rp.bl {i : Bool} : Rp K XR F γ H (.bl i) (.bl i) := by unfold Rp; rfl
theorem Rp.non : Rp K XR F γ H .non .non := by unfold Rp; rfl
theorem got_int (i : Int) : Got K XR F γ H (.int i) (.int i) H := .inl ⟨rfl, rfl, .int⟩
theorem got_str (i : Str) : Got K XR F γ H (.str i) (.str i) H := .inl ⟨rfl, rfl, .str⟩
theorem got_bl (i : Bool) : Got K XR F γ H (.bl i) (.bl i) H := .inl ⟨rfl, rfl, .bl⟩
theorem got_lst {ds : List D} {xs : List V} {p : Addr} (hp : H p = none) (r : RpL K XR F γ H ds xs) : Got K XR F γ H (.lst ds) (.ref p) (upd H p (.lst xs)) := .inr ⟨p, xs, ds, hp, rfl, rfl, rfl, r⟩
theorem cap_le {n : Nat} (h : n ≤ cap) : n ≤ sizeLine := Nat.le_trans h (by decide)

def pyBop : Bop → Operator | .add => .Add | .sub => .Sub | .mul => .Mult | .fdiv => .FloorDiv | .mod => .Mod | .pow => .Pow
theorem bopIs_eq {o : Bop} {p : Operator} (h : bopIs o p = true) : p = pyBop o := by
  cases o <;> cases p <;> first | rfl | (simp [bopIs] at h)
def rBin (o : Bop) : R2 := fun x y H Q => ∃ XR F γ a b d, OpV X.K XR F γ H a x ∧ OpV X.K XR F γ H b y ∧ binD o a b = some d ∧ ∀ v H', Got X.K XR F γ H d v H' → Q v H'
theorem bin_ok (o : Bop) : OpR X (binaryOp (pyBop o)) (rBin (X := X) o) := by
  intro pins s σ H x y v u Q I rx ry h
  obtain ⟨XR, F, γ, a, b, d, ha, hb, e, q⟩ := h
  unfold binD at e
  split at e
  · -- int + int
    cases e; have := ha.int; have := hb.int; subst x y
    exact op_add pins s σ H _ _ v u Q I rx ry ⟨_, _, rfl, rfl, q _ _ (got_int _)⟩
  · split at e
    · cases e
      obtain ⟨p, xs, rfl, e1, r1⟩ := ha.lst
      obtain ⟨p2, ys, rfl, e2, r2⟩ := hb.lst
      exact op_cat pins s σ H _ _ v u Q I rx ry ⟨_, _, _, _, rfl, rfl, e1, e2, by rw [r1.len, r2.len]; exact cap_le ‹_›, fun p hp => q _ _ (got_lst hp (r1.append r2))⟩
    · cases e
  · split at e
    · cases e; have := ha.str; have := hb.str; subst x y
      exact op_add_str pins s σ H _ _ v u Q I rx ry ⟨_, _, rfl, rfl, cap_le ‹_›, q _ _ (got_str _)⟩
    · cases e
  · cases e; have := ha.int; have := hb.int; subst x y
    exact op_sub pins s σ H _ _ v u Q I rx ry ⟨_, _, rfl, rfl, q _ _ (got_int _)⟩
  · split at e
    · cases e; have := ha.int; have := hb.int; subst x y
      exact op_mul pins s σ H _ _ v u Q I rx ry ⟨_, _, rfl, rfl, by unfold CMul; assumption, q _ _ (got_int _)⟩
    · cases e
  · split at e
    · cases e; have := hb.int; subst y
      obtain ⟨p, xs, rfl, e1, r1⟩ := ha.lst
      rename_i hk
      refine op_rep pins s σ H _ _ v u Q I rx ry ⟨_, _, _, rfl, rfl, e1, by omega, by omega, ?_, fun p hp => q _ _ (got_lst hp (r1.flat _))⟩
      rw [r1.len]
      refine Nat.le_trans (Nat.mul_le_mul hk.2.2 (show _ ≤ 1000 by omega)) (by decide)
    · cases e
  · split at e
    · rename_i hk
      cases e; have := ha.int; have := hb.int; subst x y
      exact op_fdiv pins s σ H _ _ v u Q I rx ry ⟨_, _, rfl, rfl, hk, q _ _ (got_int _)⟩
    · cases e
  · split at e
    · rename_i hk
      cases e; have := ha.int; have := hb.int; subst x y
      exact op_mod pins s σ H _ _ v u Q I rx ry ⟨_, _, rfl, rfl, hk, q _ _ (got_int _)⟩
    · cases e
  · split at e
    · rename_i hk
      cases e; have := ha.int; have := hb.int; subst x y
      exact op_pow pins s σ H _ _ v u Q I rx ry ⟨_, _, rfl, rfl, ⟨hk.1, by omega, hk.2.2⟩, q _ _ (got_int _)⟩
    · cases e
  · cases e

def pyCop : Cop → CmpOp | .eq => .Eq | .ne => .NotEq | .lt => .Lt | .le => .LtE | .gt => .Gt | .ge => .GtE | .isin => .In | .notin => .NotIn | .isb => .Is | .nisb => .IsNot
-- COMPARE
theorem copIs_eq {o : Cop} {p : CmpOp} (h : copIs o p = true) : p = pyCop o := by
  cases o <;> cases p <;> first | rfl | (simp [copIs] at h)
theorem eqvAny : ∀ (ys : List D) (a : D), pln 8 a = true → plnL 8 ys = true → (ys.any fun y => eqD y a) = ((toPyL ys).any fun z => PyData.eqv z (toPy a))
  | [], _, _, _ => rfl
  | y :: ys, a, ha, h => by
    have h' : pln 8 y = true ∧ plnL 8 ys = true := by simpa [plnL] using h
    simp only [List.any_cons, toPyL]
    rw [eqD_py 8 8 y a h'.1 ha, eqvAny ys a ha h'.2]
def rCmp (o : Cop) : R2 := fun x y H Q => ∃ XR F γ a b c, OpV X.K XR F γ H a x ∧ OpV X.K XR F γ H b y ∧ cmpD o a b = some c ∧ Q (.bl c) H
theorem in_ok (hu : X.A.units + 65 < cLine) : OpR X (compareOp .In) (rCmp (X := X) .isin) := by
  intro pins s σ H x y v u Q I rx ry h
  obtain ⟨XR, F, γ, a, b, c, ha, hb, e, q⟩ := h
  simp only [cmpD] at e
  unfold inD at e
  split at e
  · split at e
    · rename_i ys hp
      have hp' : pln 8 a = true ∧ plnL 8 ys = true := by simpa using hp
      cases e
      rw [eqvAny ys a hp'.1 hp'.2] at q
      obtain ⟨p, xs, rfl, e1, r1⟩ := hb.lst
      exact op_inD hu pins s σ H x _ v u Q I rx ry ⟨_, _, ha.dp hp'.1, .lst (SqL.of e1) (dpl_of 8 _ _ hp'.2 r1), shaped_of hp'.1, shapedL_of hp'.2, q⟩
    · cases e
  · split at e
    · cases e
      have := ha.str; have := hb.str; subst x y
      exact op_in_str pins s σ H _ _ v u Q I rx ry ⟨_, _, rfl, rfl, q⟩
    · cases e
  · cases e
theorem notin_ok (hu : X.A.units + 65 < cLine) : OpR X (compareOp .NotIn) (rCmp (X := X) .notin) := by
  intro pins s σ H x y v u Q I rx ry h
  obtain ⟨XR, F, γ, a, b, c, ha, hb, e, q⟩ := h
  simp only [cmpD, Option.map_eq_some_iff] at e
  obtain ⟨c, e, rfl⟩ := e
  unfold inD at e
  split at e
  · split at e
    · rename_i ys hp
      have hp' : pln 8 a = true ∧ plnL 8 ys = true := by simpa using hp
      cases e
      rw [eqvAny ys a hp'.1 hp'.2] at q
      obtain ⟨p, xs, rfl, e1, r1⟩ := hb.lst
      exact op_notInD hu pins s σ H x _ v u Q I rx ry ⟨_, _, ha.dp hp'.1, .lst (SqL.of e1) (dpl_of 8 _ _ hp'.2 r1), shaped_of hp'.1, shapedL_of hp'.2, q⟩
    · cases e
  · split at e
    · cases e
      have := ha.str; have := hb.str; subst x y
      exact L2.op_notin_str pins s σ H _ _ v u Q I rx ry ⟨_, _, rfl, rfl, q⟩
    · cases e
  · cases e
theorem scr_dp : ∀ (ns : List Int), DpAll K H (ns.map V.int) (toPyL (ns.map D.int))
  | [] => .nil
  | n :: r => .cons (.int n) (scr_dp r)
theorem pln_ints : ∀ (n : Nat) (ns : List Int), plnL n (ns.map D.int) = true
  | _, [] => rfl
  | n, i :: r => by
    simp only [List.map_cons, plnL, pln_ints n r, Bool.and_true]
    cases n <;> rfl
theorem eqs_ok (hu : X.A.units + 65 < cLine) : OpR X (compareOp .Eq) (rCmp (X := X) .eq) := by
  intro pins s σ H x y v u Q I rx ry h
  obtain ⟨XR, F, γ, a, b, c, ha, hb, e, q⟩ := h
  simp only [cmpD] at e
  split at e
  · rename_i hp
    have hp' : pln 8 a = true ∧ pln 8 b = true := by simpa using hp
    cases e
    rw [eqD_py 8 8 a b hp'.1 hp'.2] at q
    exact op_eqD (by omega) pins s σ H x y v u Q I rx ry ⟨_, _, ha.dp hp'.1, hb.dp hp'.2, shaped_of hp'.1, shaped_of hp'.2, q⟩
  · cases e
theorem ne_ok (hu : X.A.units + 65 < cLine) : OpR X (compareOp .NotEq) (rCmp (X := X) .ne) := by
  intro pins s σ H x y v u Q I rx ry h
  obtain ⟨XR, F, γ, a, b, c, ha, hb, e, q⟩ := h
  simp only [cmpD] at e
  unfold neD at e
  split at e
  · rename_i ns
    cases e
    unfold OpV Rp at ha
    obtain ⟨p, rfl, hs⟩ := ha
    obtain ⟨p2, ys, rfl, e2, r2⟩ := hb.lst
    unfold RpL at r2
    subst r2
    refine op_neD (by omega) pins s σ H _ _ v u Q I rx ry ⟨_, .list [], .lst hs.sq (scr_dp ns), .lst (SqL.of e2) .nil, shapedL_of (pln_ints 8 ns), by decide, ?_⟩
    have e3 : (!PyData.eqv (.list (toPyL (ns.map D.int))) (.list [])) = !ns.isEmpty := by
      cases ns <;> rfl
    rw [e3]
    exact q
  · split at e
    · rename_i hp
      have hp' := Bool.and_eq_true_iff.mp hp
      cases e
      rw [eqD_py 8 8 _ _ hp'.1 hp'.2] at q
      exact op_neD (by omega) pins s σ H x y v u Q I rx ry ⟨_, _, ha.dp hp'.1, hb.dp hp'.2, shaped_of hp'.1, shaped_of hp'.2, q⟩
    · cases e
theorem ord_ok (o : Cop) (hu : X.A.units + 65 < cLine) (h : (match o with | .lt => true | .le => true | .gt => true | .ge => true | _ => false) = true) : OpR X (compareOp (pyCop o)) (rCmp (X := X) o) := by
  intro pins s σ H x y v u Q I rx ry h
  obtain ⟨XR, F, γ, a, b, c, ha, hb, e, q⟩ := h
  have e0 : cmpD o a b = some c := e
  cases o with
  | lt =>
    simp only [cmpD] at e
    split at e
    · rename_i c2 e2
      cases e
      unfold ltD at e2
      split at e2
      · cases e2; have := ha.int; have := hb.int; subst x y
        exact op_lt pins s σ H _ _ v u Q I rx ry ⟨_, _, rfl, rfl, q⟩
      · cases e2; have := ha.str; have := hb.str; subst x y
        exact op_lt_str pins s σ H _ _ v u Q I rx ry ⟨_, _, rfl, rfl, q⟩
      · cases e2
    · unfold ltL at e
      split at e
      · split at e
        · rename_i h1 h2
          cases e
          obtain ⟨p1, ys1, rfl, e1, r1⟩ := ha.lst
          obtain ⟨p2, ys2, rfl, e2, r2⟩ := hb.lst
          obtain ⟨rfl, _⟩ := r1.getIs h1
          obtain ⟨rfl, _⟩ := r2.getIs h2
          exact op_ltL (by omega) pins s σ H _ _ v u Q I rx ry ⟨_, _, _, _, rfl, rfl, SqL.of e1, SqL.of e2, q⟩
        · cases e
      · cases e
  | gt =>
    simp only [cmpD] at e
    unfold ltD at e
    split at e
    · cases e; have := ha.int; have := hb.int; subst x y
      exact op_gt pins s σ H _ _ v u Q I rx ry ⟨_, _, rfl, rfl, q⟩
    · cases e; have := ha.str; have := hb.str; subst x y
      exact op_gt_str pins s σ H _ _ v u Q I rx ry ⟨_, _, rfl, rfl, q⟩
    · cases e
  | le =>
    simp only [cmpD, Option.map_eq_some_iff] at e
    obtain ⟨c, e, rfl⟩ := e
    unfold ltD at e
    split at e
    · rename_i i j
      cases e; have := ha.int; have := hb.int; subst x y
      refine op_le pins s σ H _ _ v u Q I rx ry ⟨_, _, rfl, rfl, ?_⟩
      have z : (!decide (i < j)) = decide (j ≤ i) := by
        by_cases h : i < j
        · rw [decide_eq_true h, decide_eq_false (by omega)]; rfl
        · rw [decide_eq_false h, decide_eq_true (by omega)]; rfl
      rw [z] at q
      exact q
    · cases e; have := ha.str; have := hb.str; subst x y
      exact op_le_str pins s σ H _ _ v u Q I rx ry ⟨_, _, rfl, rfl, q⟩
    · cases e
  | ge =>
    simp only [cmpD, Option.map_eq_some_iff] at e
    obtain ⟨c, e, rfl⟩ := e
    unfold ltD at e
    split at e
    · rename_i i j
      cases e; have := ha.int; have := hb.int; subst x y
      refine op_ge pins s σ H _ _ v u Q I rx ry ⟨_, _, rfl, rfl, ?_⟩
      have z : (!decide (i < j)) = decide (j ≤ i) := by
        by_cases h : i < j
        · rw [decide_eq_true h, decide_eq_false (by omega)]; rfl
        · rw [decide_eq_false h, decide_eq_true (by omega)]; rfl
      rw [z] at q
      exact q
    · cases e; have := ha.str; have := hb.str; subst x y
      exact op_ge_str pins s σ H _ _ v u Q I rx ry ⟨_, _, rfl, rfl, q⟩
    · cases e
  | _ => cases h
theorem isb_some {a b : D} {c : Bool} (h : isbD a b = some c) : ∃ x y, a = .bl x ∧ b = .bl y ∧ c = decide (x = y) := by
  unfold isbD at h
  split at h
  · cases h; exact ⟨_, _, rfl, rfl, rfl⟩
  · cases h
theorem isb_ok : OpR X (compareOp .Is) (rCmp (X := X) .isb) := by
  intro pins s σ H x y v u Q I rx ry h
  obtain ⟨XR, F, γ, a, b, c, ha, hb, e, q⟩ := h
  obtain ⟨p, r, rfl, rfl, rfl⟩ := isb_some e
  have := ha.bl; have := hb.bl; subst x y
  exact op_isBl pins s σ H _ _ v u Q I rx ry ⟨_, _, rfl, rfl, q⟩
theorem nisb_ok : OpR X (compareOp .IsNot) (rCmp (X := X) .nisb) := by
  intro pins s σ H x y v u Q I rx ry h
  obtain ⟨XR, F, γ, a, b, c, ha, hb, e, q⟩ := h
  simp only [cmpD, Option.map_eq_some_iff] at e
  obtain ⟨c, e, rfl⟩ := e
  obtain ⟨p, r, rfl, rfl, rfl⟩ := isb_some e
  have := ha.bl; have := hb.bl; subst x y
  exact op_notBl pins s σ H _ _ v u Q I rx ry ⟨_, _, rfl, rfl, q⟩
theorem cmp_ok (o : Cop) (hu : X.A.units + 65 < cLine) : OpR X (compareOp (pyCop o)) (rCmp (X := X) o) := by
  cases o with
  | eq => exact eqs_ok hu
  | ne => exact ne_ok hu
  | isin => exact in_ok hu
  | notin => exact notin_ok hu
  | lt => exact ord_ok .lt hu rfl
  | le => exact ord_ok .le hu rfl
  | gt => exact ord_ok .gt hu rfl
  | ge => exact ord_ok .ge hu rfl
  | isb => exact isb_ok
  | nisb => exact nisb_ok
end
end Tv

set_option Elab.async false
set_option linter.all false
set_option maxRecDepth 100000
/-! sorted, of tuples of whole numbers and texts. -/
namespace Tv
open PySem PySem.Spec PyProof.Rows L2

def kD : D → Int ⊕ List Nat
  | .int i => .inl i
  | .str s => .inr s.cps.toList
  | _ => .inl 0
theorem shOf_cons {x : D} {r : List D} {b : Bool} {bs : List Bool} (h : shOf (x :: r) = some (b :: bs)) : shI x = some b ∧ shOf r = some bs := by
  unfold shOf at h
  split at h
  · rename_i c cs e1 e2
    cases h
    exact ⟨e1, e2⟩
  · cases h
theorem shOf_some {x : D} {r : List D} {sh : List Bool} (h : shOf (x :: r) = some sh) : ∃ b bs, sh = b :: bs := by
  unfold shOf at h
  split at h
  · cases h; exact ⟨_, _, rfl⟩
  · cases h
theorem itLt_key {x y : D} {b c : Bool} (hx : shI x = some b) (hy : shI y = some c) : itLt x y = itemLt (kD x) (kD y) := by
  cases x <;> cases y <;> first | (simp [shI] at hx; done) | (simp [shI] at hy; done) | rfl
theorem kD_inj {x y : D} {b c : Bool} (hx : shI x = some b) (hy : shI y = some c) (h : kD x = kD y) : x = y := by
  cases x <;> cases y <;> first | (simp [shI] at hx; done) | (simp [shI] at hy; done) | skip
  · rw [Sum.inl.inj h]
  · cases h
  · cases h
  · rename_i s t
    have := Sum.inr.inj h
    obtain ⟨a⟩ := s; obtain ⟨b⟩ := t
    have : a = b := Array.toList_inj.mp this
    rw [this]
theorem lexD_key : ∀ {a b : List D} {sh sh' : List Bool}, shOf a = some sh → shOf b = some sh' → lexD a b = lexLt itemOrd (a.map kD) (b.map kD)
  | [], [], _, _, _, _ => rfl
  | [], _ :: _, _, _, _, _ => rfl
  | _ :: _, [], _, _, _, _ => rfl
  | x :: r, y :: t, sh, sh', ha, hb => by
    obtain ⟨b, bs, rfl⟩ := shOf_some ha
    obtain ⟨c, cs, rfl⟩ := shOf_some hb
    obtain ⟨h1, h2⟩ := shOf_cons ha
    obtain ⟨h3, h4⟩ := shOf_cons hb
    unfold lexD
    rw [List.map_cons, List.map_cons, lex_cons, itLt_key h1 h3, itLt_key h3 h1, lexD_key h2 h4]
theorem key_inj : ∀ {a b : List D} {sh sh' : List Bool}, shOf a = some sh → shOf b = some sh' → a.map kD = b.map kD → a = b
  | [], [], _, _, _, _, _ => rfl
  | [], _ :: _, _, _, _, _, h => by simp at h
  | _ :: _, [], _, _, _, _, h => by simp at h
  | x :: r, y :: t, sh, sh', ha, hb, h => by
    obtain ⟨b, bs, rfl⟩ := shOf_some ha
    obtain ⟨c, cs, rfl⟩ := shOf_some hb
    obtain ⟨h1, h2⟩ := shOf_cons ha
    obtain ⟨h3, h4⟩ := shOf_cons hb
    simp only [List.map_cons, List.cons.injEq] at h
    rw [kD_inj h1 h3 h.1, key_inj h2 h4 h.2]
theorem isSh_tup {sh : List Bool} {d : D} (h : isSh sh d = true) : ∃ c, d = .tup c ∧ shOf c = some sh := by
  cases d <;> simp [isSh] at h
  exact ⟨_, rfl, h⟩
theorem tupsOk_all {ds : List D} {sh : List Bool} (h : tupsOk ds = some sh) : (∀ d ∈ ds, isSh sh d = true) ∧ ∃ b bs, sh = b :: bs := by
  unfold tupsOk at h
  split at h
  · rename_i a r
    split at h
    · rename_i b bs e
      split at h
      · rename_i ha
        cases h
        refine ⟨fun d hd => ?_, _, _, rfl⟩
        rcases List.mem_cons.mp hd with rfl | hd
        · simp [isSh, e]
        · exact List.all_eq_true.mp ha d hd
      · cases h
    · cases h
  · cases h
/-! sorting the data -/
theorem insT_perm (x : D) : ∀ l, (insT x l).Perm (x :: l)
  | [] => .refl _
  | y :: r => by
    unfold insT
    split
    · exact ((insT_perm x r).cons y).trans (.swap x y r)
    · exact .refl _
theorem sortT_perm : ∀ l, (sortT l).Perm l
  | [] => .refl _
  | x :: r => (insT_perm x (sortT r)).trans ((sortT_perm r).cons x)
section
variable {sh : List Bool}
theorem ltTup_key {x y : D} (hx : isSh sh x = true) (hy : isSh sh y = true) : ∃ a b, x = .tup a ∧ y = .tup b ∧ ltTup x y = lexLt itemOrd (a.map kD) (b.map kD) := by
  obtain ⟨a, rfl, h1⟩ := isSh_tup hx
  obtain ⟨b, rfl, h2⟩ := isSh_tup hy
  exact ⟨a, b, rfl, rfl, lexD_key h1 h2⟩
theorem ltTup_asym {x y : D} (hx : isSh sh x = true) (hy : isSh sh y = true) (h : ltTup x y = true) : ltTup y x = false := by
  obtain ⟨a, rfl, h1⟩ := isSh_tup hx
  obtain ⟨b, rfl, h2⟩ := isSh_tup hy
  have e1 : ltTup (.tup a) (.tup b) = _ := lexD_key h1 h2
  have e2 : ltTup (.tup b) (.tup a) = _ := lexD_key h2 h1
  rw [e1] at h
  rw [e2]
  cases q : lexLt itemOrd (b.map kD) (a.map kD) with
  | false => rfl
  | true => exact absurd ((lex_irrefl _).symm.trans (lex_trans _ _ _ h q)) (by decide)
theorem ltTup_tr {x y z : D} (hx : isSh sh x = true) (hy : isSh sh y = true) (hz : isSh sh z = true) (h : ltTup y x = false) (k : ltTup z y = false) : ltTup z x = false := by
  obtain ⟨a, rfl, h1⟩ := isSh_tup hx
  obtain ⟨b, rfl, h2⟩ := isSh_tup hy
  obtain ⟨c, rfl, h3⟩ := isSh_tup hz
  have e1 : ltTup (.tup b) (.tup a) = _ := lexD_key h2 h1
  have e2 : ltTup (.tup c) (.tup b) = _ := lexD_key h3 h2
  have e3 : ltTup (.tup c) (.tup a) = _ := lexD_key h3 h1
  rw [e1] at h
  rw [e2] at k
  rw [e3]
  cases q : lexLt itemOrd (c.map kD) (a.map kD) with
  | false => rfl
  | true =>
    rcases lex_negTrans (O := itemOrd) (c.map kD) (b.map kD) (a.map kD) q with w | w
    · rw [k] at w; exact absurd w (by decide)
    · rw [h] at w; exact absurd w (by decide)
theorem ltTup_eq {x y : D} (hx : isSh sh x = true) (hy : isSh sh y = true) (h : ltTup x y = false) (k : ltTup y x = false) : x = y := by
  obtain ⟨a, rfl, h1⟩ := isSh_tup hx
  obtain ⟨b, rfl, h2⟩ := isSh_tup hy
  have e1 : ltTup (.tup a) (.tup b) = _ := lexD_key h1 h2
  have e2 : ltTup (.tup b) (.tup a) = _ := lexD_key h2 h1
  rw [e1] at h
  rw [e2] at k
  rw [key_inj h1 h2 (lex_total _ _ h k)]
theorem insT_sorted {x : D} (hx : isSh sh x = true) : ∀ l, (∀ d ∈ l, isSh sh d = true) → l.Pairwise (fun a b => ltTup b a = false) → (insT x l).Pairwise fun a b => ltTup b a = false
  | [], _, _ => by simp [insT]
  | y :: r, ha, h => by
    obtain ⟨h1, h2⟩ := List.pairwise_cons.mp h
    have hy := ha y List.mem_cons_self
    unfold insT
    split
    · rename_i hyx
      refine List.pairwise_cons.mpr ⟨fun z hz => ?_, insT_sorted hx r (fun d hd => ha d (List.mem_cons_of_mem _ hd)) h2⟩
      rcases List.mem_cons.mp ((insT_perm x r).mem_iff.mp hz) with rfl | hz
      · exact ltTup_asym hy hx hyx
      · exact h1 z hz
    · rename_i hyx
      have hyx : ltTup y x = false := by simpa using hyx
      refine List.pairwise_cons.mpr ⟨fun z hz => ?_, h⟩
      rcases List.mem_cons.mp hz with rfl | hz
      · exact hyx
      · exact ltTup_tr hx hy (ha z (List.mem_cons_of_mem _ hz)) hyx (h1 z hz)
theorem sortT_sorted : ∀ l, (∀ d ∈ l, isSh sh d = true) → (sortT l).Pairwise fun a b => ltTup b a = false
  | [], _ => .nil
  | x :: r, ha => insT_sorted (ha x List.mem_cons_self) _ (fun d hd => ha d (List.mem_cons_of_mem _ ((sortT_perm r).mem_iff.mp hd))) (sortT_sorted r fun d hd => ha d (List.mem_cons_of_mem _ hd))
theorem sortT_eq {l m : List D} (ha : ∀ d ∈ l, isSh sh d = true) (p : m.Perm l) (h : m.Pairwise fun a b => ltTup b a = false) : m = sortT l := by
  have q : m.Perm (sortT l) := p.trans (sortT_perm l).symm
  refine q.eq_of_pairwise (fun a b h1 h2 h3 h4 => ?_) h (sortT_sorted l ha)
  have ia : isSh sh a = true := ha a (p.mem_iff.mp h1)
  have ib : isSh sh b = true := ha b ((sortT_perm l).mem_iff.mp h2)
  exact (ltTup_eq ib ia h3 h4).symm
end

theorem perm_lift {α β : Type} {f : α → β} {m k : List β} (h : m.Perm k) : ∀ l : List α, l.map f = k → ∃ l' : List α, l'.Perm l ∧ l'.map f = m := by
  induction h with
  | nil => intro l e; exact ⟨l, .refl _, e⟩
  | cons x _ ih =>
    intro l e
    cases l with
    | nil => simp at e
    | cons y l =>
      simp only [List.map_cons, List.cons.injEq] at e
      obtain ⟨l', h1, h2⟩ := ih l e.2
      exact ⟨y :: l', h1.cons y, by rw [List.map_cons, h2, e.1]⟩
  | swap x y t =>
    intro l e
    cases l with
    | nil => simp at e
    | cons a l =>
      cases l with
      | nil => simp at e
      | cons b l =>
        simp only [List.map_cons, List.cons.injEq] at e
        exact ⟨b :: a :: l, .swap a b l, by rw [List.map_cons, List.map_cons, e.1, e.2.1, e.2.2]⟩
  | trans _ _ ih1 ih2 =>
    intro l e
    obtain ⟨l1, h1, h2⟩ := ih2 l e
    obtain ⟨l2, h3, h4⟩ := ih1 l1 h2
    exact ⟨l2, h3.trans h1, h4⟩
section
variable {X : Cx} {K : PySem.W.Frag} {XR : Nat → Addr → Hp → Prop} {F : Addr → Prop} {γ : List Addr} {H : Hp}
theorem tupItems_of {shape : Nat → Bool} : ∀ {ts : List D} {sh : List Bool} {ys : List V} {us : List Value} (i : Nat), shOf ts = some sh → RpL K XR F γ H ts ys → Vals ys us → (∀ j b, sh[j]? = some b → shape (i + j) = b) → tupItems shape i us = some (ts.map kD)
  | [], _, _, _, i, _, r, v, _ => by
    unfold RpL at r
    subst r
    cases v
    rfl
  | x :: ts, sh, ys, us, i, h, r, v, hs => by
    obtain ⟨b, bs, rfl⟩ := shOf_some h
    obtain ⟨h1, h2⟩ := shOf_cons h
    unfold RpL at r
    obtain ⟨y, ys, rfl, r1, r2⟩ := r
    cases v with
    | cons v1 v2 =>
      have ih := tupItems_of (i + 1) h2 r2 v2 fun j c hj => by
        have := hs (j + 1) c (by simpa using hj)
        rw [show i + 1 + j = i + (j + 1) by omega]; exact this
      have hb := hs 0 b rfl
      rw [Nat.add_zero] at hb
      cases x with
      | int n =>
        cases h1
        unfold Rp at r1
        subst r1
        obtain ⟨t, rfl⟩ := v1
        simp only [tupItems, hb, ih]; rfl
      | str n =>
        cases h1
        unfold Rp at r1
        subst r1
        obtain ⟨t, rfl⟩ := v1
        simp only [tupItems, hb, ih]; rfl
      | _ => simp [shI] at h1
/-- what stands behind an item -/
structure TupIt (X : Cx) (K : PySem.W.Frag) (XR : Nat → Addr → Hp → Prop) (F : Addr → Prop) (γ : List Addr) (H : Hp) (h : Heap) (shape : Nat → Bool) (sh : List Bool) (d : D) (u : Value) : Prop where
  sh : isSh sh d = true
  rp : Rp K XR F γ H d (backV u)
  at_ : ∃ (t : Addr) (o : Obj) (its : List Value) (n : Nat) (ts : List D), u = .ref t ∧ d = .tup ts ∧ h.get? t = some o ∧ o.cls = .type "tuple" ∧ o.data = .seq its.toArray n ∧ tupItems shape 0 its = some (ts.map kD)
theorem TupIt.key {h : Heap} {shape : Nat → Bool} {sh : List Bool} {d : D} {u : Value} (t : TupIt X K XR F γ H h shape sh d u) : ∃ ts, d = .tup ts ∧ tupKey h shape u = some (ts.map kD) := by
  obtain ⟨a, o, its, n, ts, rfl, hd, ho, hc, hs, e⟩ := t.at_
  refine ⟨ts, hd, ?_⟩
  simp only [tupKey, ho, hs, List.toList_toArray, e]
theorem TupIt.keeps {h h' : Heap} {shape : Nat → Bool} {sh : List Bool} {d : D} {u : Value} (t : TupIt X K XR F γ H h shape sh d u) (k : ∀ b o, h.get? b = some o → o.cls = .type "tuple" → h'.get? b = some o) : TupIt X K XR F γ H h' shape sh d u := by
  obtain ⟨a, o, its, n, ts, e, hd, ho, hc, hs, e2⟩ := t.at_
  exact ⟨t.sh, t.rp, a, o, its, n, ts, e, hd, k _ _ ho hc, hc, hs, e2⟩
theorem items_of {pins : List (Addr × Obj)} {σ : L2.St} {s : Shared} {shape : Nat → Bool} {sh : List Bool} (I : L2.Inv X pins σ H s) (hsh : ∀ j b, sh[j]? = some b → shape j = b) : ∀ {ds : List D} {xs : List V} {us : List Value}, RpL X.K XR F γ H ds xs → Vals xs us → (∀ d ∈ ds, isSh sh d = true) →
    (∀ p ∈ ds.zip us, TupIt X X.K XR F γ H s.heap shape sh p.1 p.2) ∧ us.length = ds.length ∧ (∀ x ∈ xs, ∃ a, x = V.ref a)
  | [], _, _, r, v, _ => by
    unfold RpL at r
    subst r
    cases v
    exact ⟨by simp, rfl, by simp⟩
  | d :: ds, xs, us, r, v, ha => by
    unfold RpL at r
    obtain ⟨x, xs, rfl, r1, r2⟩ := r
    cases v with
    | cons v1 v2 =>
      rename_i u us
      obtain ⟨h1, h2, h3⟩ := items_of I hsh r2 v2 fun d hd => ha d (List.mem_cons_of_mem _ hd)
      have hd := ha d List.mem_cons_self
      obtain ⟨ts, rfl, hts⟩ := isSh_tup hd
      have r1' := r1
      unfold Rp at r1
      obtain ⟨t, ys, rfl, hq, rt⟩ := r1
      obtain rfl : u = Value.ref t := v1
      obtain ⟨its, rv, ⟨o, ho, hc, n, hdd⟩, _⟩ := I.tuple hq
      refine ⟨fun p hp => ?_, by simp [h2], fun x hx => ?_⟩
      · rcases List.mem_cons.mp hp with rfl | hp
        · exact ⟨hd, r1', t, o, its, n, ts, rfl, rfl, ho, hc, hdd, tupItems_of 0 hts rt rv fun j b hj => by rw [Nat.zero_add]; exact hsh j b hj⟩
        · exact h1 p hp
      · rcases List.mem_cons.mp hx with rfl | hx
        · exact ⟨t, rfl⟩
        · exact h3 x hx
theorem zip_maps {α β : Type} : ∀ {l : List α} {m : List β}, m.length = l.length → (l.zip m).map Prod.fst = l ∧ (l.zip m).map Prod.snd = m
  | [], [], _ => ⟨rfl, rfl⟩
  | [], _ :: _, h => by simp at h
  | _ :: _, [], h => by simp at h
  | a :: l, b :: m, h => by
    obtain ⟨h1, h2⟩ := zip_maps (l := l) (m := m) (by simpa using h)
    simp [h1, h2]
theorem rpl_of : ∀ {ds : List D} {us : List Value} , us.length = ds.length → (∀ p ∈ ds.zip us, Rp K XR F γ H p.1 (backV p.2)) → RpL K XR F γ H ds (us.map backV)
  | [], [], _, _ => .nil
  | [], _ :: _, h, _ => by simp at h
  | _ :: _, [], h, _ => by simp at h
  | d :: ds, u :: us, h, k => .cons (k (d, u) (by simp)) (rpl_of (by simpa using h) fun p hp => k p (by simp [hp]))
def rSortTs (X : Cx) : List V → Hp → VK → Prop := fun vs H Q => ∃ XR F γ sh a ds xs, vs = [V.ref a] ∧ H a = some (.lst xs) ∧ RpL X.K XR F γ H ds xs ∧ tupsOk ds = some sh ∧ ∀ ys p, RpL X.K XR F γ H (sortT ds) ys → H p = none → Q (.ref p) (upd H p (.lst ys))
theorem sorted_tups : CallR X (.builtin "sorted") (rSortTs X) := by
  intro pins s σ H vs us Q I r h
  obtain ⟨XR, F, γ, sh, a, ds, xs, rfl, hl, rp, hok, q⟩ := h
  obtain ⟨hall, b0, bs0, hshe⟩ := tupsOk_all hok
  obtain ⟨its, rv, pl, hz⟩ := I.list (SqL.of hl)
  obtain ⟨u, rfl, ru⟩ := vals1 r
  obtain rfl : u = Value.ref a := ru
  let shape : Nat → Bool := fun j => sh.getD j false
  have hsh : ∀ j b, sh[j]? = some b → shape j = b := fun j b e => by simp [shape, List.getD_eq_getElem?_getD, e]
  obtain ⟨P1, P2, P3⟩ := items_of (XR := XR) (F := F) (γ := γ) (shape := shape) I hsh rp rv hall
  obtain ⟨e1, e2⟩ := refs_back rv P3
  obtain ⟨z1, z2⟩ := zip_maps P2
  let kk : Value → List (Int ⊕ List Nat) := fun u => (tupKey s.heap shape u).getD []
  let ltv : Value → Value → Bool := fun v u => lexLt itemOrd (kk v) (kk u)
  have hlt : ∀ p ∈ ds.zip its, ∀ p' ∈ ds.zip its, ltv p.2 p'.2 = ltTup p.1 p'.1 := fun p hp p' hp' => by
    have t1 := P1 p hp
    have t2 := P1 p' hp'
    obtain ⟨ts, h1, k1⟩ := t1.key
    obtain ⟨ts', h2, k2⟩ := t2.key
    obtain ⟨a1, b1, g1, g2, g3⟩ := ltTup_key t1.sh t2.sh
    rw [h1] at g1; rw [h2] at g2
    cases g1; cases g2
    rw [g3]
    simp only [ltv, kk, k1, k2, Option.getD_some]
  have O : SrtO.Swo ltv := by
    refine ⟨fun x y h => ?_, fun x y z h1 h2 => ?_⟩
    · show lexLt itemOrd (kk y) (kk x) = false
      cases q : lexLt itemOrd (kk y) (kk x) with
      | false => rfl
      | true => exact absurd ((lex_irrefl _).symm.trans (lex_trans _ _ _ h q)) (by decide)
    · show lexLt itemOrd (kk z) (kk x) = false
      cases q : lexLt itemOrd (kk z) (kk x) with
      | false => rfl
      | true =>
        rcases lex_negTrans (O := itemOrd) (kk z) (kk y) (kk x) q with w | w
        · exact absurd (show false = true from h2.symm.trans w) (by decide)
        · exact absurd (show false = true from h1.symm.trans w) (by decide)
  have hmem : ∀ v ∈ its, ∃ d, (d, v) ∈ ds.zip its := fun v hv => by
    rw [← z2] at hv
    obtain ⟨p, hp, rfl⟩ := List.mem_map.mp hv
    exact ⟨p.1, hp⟩
  refine SrtO.sorted_ord O (vs := its) ⟨_, pl.isList.choose_spec.1, pl.isList.choose_spec.2.1, pl.isList.choose_spec.2.2⟩ (by rw [← rv.length]; exact hz) (fun h2 h₁ a1 ha1 kk1 => ?_) fun out hs hb => ?_
  · intro h' keep
    have hk : ∀ b o, s.heap.get? b = some o → o.cls = .type "tuple" → h'.get? b = some o := fun b o e hc => by
      obtain ⟨q1, q2⟩ := kk1 b o e
      exact keep b o q1 q2
    have T : ∀ v ∈ its, ∃ d, TupIt X X.K XR F γ H h' shape sh d v := fun v hv => by
      obtain ⟨d, hd⟩ := hmem v hv
      exact ⟨d, (P1 _ hd).keeps hk⟩
    have kkeep : ∀ v ∈ its, tupKey h' shape v = some (kk v) := fun v hv => by
      obtain ⟨d, hd⟩ := hmem v hv
      have t := P1 _ hd
      obtain ⟨ts, g1, g2⟩ := t.key
      obtain ⟨ts', g3, g4⟩ := (t.keeps hk).key
      rw [g1] at g3; cases g3
      rw [g4]
      simp only [kk, g2, Option.getD_some]
    have tof : ∀ v ∈ its, ∃ f, TupOf h' shape v f := fun v hv => by
      obtain ⟨d, t⟩ := T v hv
      have hd := t.sh
      obtain ⟨t1, o, js, n, ts, rfl, rfl, ho, hc, hdd, e⟩ := t.at_
      obtain ⟨c, hcc, hs1⟩ := isSh_tup hd
      cases hcc
      rw [hshe] at hs1
      cases ts with
      | nil => simp [shOf] at hs1
      | cons y ts =>
        cases js with
        | nil => simp [tupItems] at e
        | cons j js =>
          obtain ⟨g1, g2⟩ := shOf_cons hs1
          have s0 : shape 0 = b0 := hsh 0 b0 (by rw [hshe]; rfl)
          refine ⟨j, t1, o, (j :: js).toArray, n, rfl, ho, hc, hdd, by simp, fun hf => ?_, fun hf => ?_⟩
          · obtain ⟨n1, t2, l', rfl, _, _⟩ := tupItems_int hf e
            exact ⟨_, _, rfl⟩
          · obtain ⟨n1, t2, l', rfl, _, _⟩ := tupItems_str hf e
            exact ⟨_, _, rfl⟩
    have tsof : ∀ l : List Value, (∀ v ∈ l, ∃ f, TupOf h' shape v f) → ∃ fs, TupsOf h' shape l fs ∧ fs.length = l.length := by
      intro l
      induction l with
      | nil => intro _; exact ⟨[], .nil, rfl⟩
      | cons v l ih =>
        intro hv
        obtain ⟨f, hf⟩ := hv v List.mem_cons_self
        obtain ⟨fs, h3, h4⟩ := ih fun u hu => hv u (List.mem_cons_of_mem _ hu)
        exact ⟨f :: fs, .cons hf h3, by simp [h4]⟩
    obtain ⟨fs, hfs, hfl⟩ := tsof its tof
    refine ⟨tuples' true, fun Q E hq => tup_kind (s := { s with heap := h' }) (by omega) hfs hq, fun p q hp hq => ?_⟩
    exact tup_ltAt (s := { s with heap := h' }) true _ _ p.1 q.1 (kk p.1) (kk q.1) (kkeep _ hp) (kkeep _ hq) ⟨rfl, rfl⟩
  · obtain ⟨P', hp1, hp2⟩ := perm_lift hb.perm (ds.zip its) z2
    have hmemP : ∀ p ∈ P', p ∈ ds.zip its := fun p hp => hp1.mem_iff.mp hp
    have hd : P'.map Prod.fst = sortT ds := by
      refine sortT_eq hall (by rw [← z1]; exact hp1.map _) ?_
      rw [List.pairwise_map]
      have hs' : (P'.map Prod.snd).Pairwise fun x y => ltv y x = false := by rw [hp2]; exact hs
      rw [List.pairwise_map] at hs'
      refine hs'.imp_of_mem fun {p p'} hp hp' hh => ?_
      rw [← hlt p' (hmemP p' hp') p (hmemP p hp)]
      exact hh
    have hlen : out.length = (sortT ds).length := by rw [← hp2, ← hd, List.length_map, List.length_map]
    have hrp : RpL X.K XR F γ H (sortT ds) (out.map backV) := by
      rw [← hd, ← hp2]
      refine rpl_of (by rw [List.length_map, List.length_map]) fun p hp => ?_
      have : ∀ (l : List (D × Value)), (l.map Prod.fst).zip (l.map Prod.snd) = l := fun l => by
        induction l with
        | nil => rfl
        | cons x l ih => simp [ih]
      rw [this] at hp
      exact (P1 p (hmemP p hp)).rp
    have h3 : ∀ u ∈ out, ∃ a, u = Value.ref a := fun u hu => e2 u (hb.perm.mem_iff.mp hu)
    obtain ⟨n, hn⟩ := sortedAll_at s.heap its out.toArray
    refine ⟨.ref (s.heap.objs.size + 1), upd H (s.heap.objs.size + 1) (.lst (out.map backV)), I.laid (t' := s.toks) (fun b o e => sortedAll_old e) (Nat.le_succ _) ⟨?_, out, n, vals_back h3, hn⟩, rfl, q _ _ hrp (I.hok.fresh (Nat.le_succ _))⟩
    rw [List.length_map, hlen, (sortT_perm ds).length_eq, ← rp.len]
    exact hz
end
end Tv

set_option Elab.async false
set_option linter.all false
set_option maxRecDepth 100000
/-! min of a list of texts. -/
namespace Tv
open PySem PySem.Spec PyProof.Rows L2

theorem strs_hasM : ∀ {us : List Value} {ns : List Str}, Vals (ns.map V.str) us → ∀ (i : Nat) (v : Value), us[i]? = some v → ∃ k t, ns[i]? = some k ∧ v = .str k t
  | [], [], _, i, v, h => by simp at h
  | u :: us, n :: ns, .cons r q, 0, v, h => by
    obtain ⟨t, rfl⟩ := r
    simp at h; subst h
    exact ⟨n, t, rfl, rfl⟩
  | u :: us, n :: ns, .cons r q, i + 1, v, h => by
    obtain ⟨k, t, e1, e2⟩ := strs_hasM q i v (by simpa using h)
    exact ⟨k, t, by simpa using e1, e2⟩
theorem argBest_ltS (f : Nat → List Nat) : ∀ k, argBest (fun i j => decide (f i < f j)) k ≤ k ∧ ∀ j, j ≤ k → ¬ f j < f (argBest (fun i j => decide (f i < f j)) k)
  | 0 => ⟨Nat.le_refl _, fun j hj => by
    obtain rfl : j = 0 := by omega
    exact List.lt_irrefl _⟩
  | k + 1 => by
    obtain ⟨h1, h2⟩ := argBest_ltS f k
    simp only [argBest]
    by_cases hc : f (k + 1) < f (argBest (fun i j => decide (f i < f j)) k)
    · rw [if_pos (by simpa using hc)]
      refine ⟨Nat.le_refl _, fun j hj => ?_⟩
      rcases Nat.lt_or_ge j (k + 1) with hlt | hge
      · exact fun z => h2 j (by omega) (List.lt_trans z hc)
      · obtain rfl : j = k + 1 := by omega
        exact List.lt_irrefl _
    · rw [if_neg (by simpa using hc)]
      refine ⟨by omega, fun j hj => ?_⟩
      rcases Nat.lt_or_ge j (k + 1) with hlt | hge
      · exact h2 j (by omega)
      · obtain rfl : j = k + 1 := by omega
        exact hc
theorem minS_mem : ∀ {l : List Str} {m : Str}, minS l = some m → m ∈ l ∧ ∀ y ∈ l, ¬ y.cps.toList < m.cps.toList
  | [], _, h => by simp [minS] at h
  | x :: r, m, h => by
    unfold minS at h
    cases hr : minS r with
    | none =>
      rw [hr] at h
      cases h
      cases r with
      | nil => exact ⟨List.mem_cons_self, fun y hy => by rw [List.mem_singleton] at hy; subst hy; exact List.lt_irrefl _⟩
      | cons z t =>
        unfold minS at hr
        cases hq : minS t <;> rw [hq] at hr <;> cases hr
    | some k =>
      rw [hr] at h
      obtain ⟨h1, h2⟩ := minS_mem hr
      simp only [Option.some.injEq] at h
      subst h
      by_cases c : leS x k = true
      · rw [if_pos c]
        have c' : ¬ k.cps.toList < x.cps.toList := by simpa [leS] using c
        refine ⟨List.mem_cons_self, fun y hy => ?_⟩
        rcases List.mem_cons.mp hy with rfl | hy
        · exact List.lt_irrefl _
        · exact List.not_lt.mpr (List.le_trans (List.not_lt.mp c') (List.not_lt.mp (h2 y hy)))
      · rw [if_neg c]
        have c' : k.cps.toList < x.cps.toList := by simpa [leS] using c
        refine ⟨List.mem_cons_of_mem _ h1, fun y hy => ?_⟩
        rcases List.mem_cons.mp hy with rfl | hy
        · exact fun z => List.lt_irrefl _ (List.lt_trans z c')
        · exact h2 y hy
theorem cmpOf_strs {prog : Program} {w : World} {A : Around} {P : Nat → Value → Prop} (val : Nat → Str) (hval : ∀ i v, P i v → ∃ t, v = Value.str (val i) t) :
    CmpOf prog w A .Lt P (fun i j => decide ((val i).cps.toList < (val j).cps.toList)) := fun i j vi vj s Q E hi hj h => by
  obtain ⟨t, rfl⟩ := hval i vi hi
  obtain ⟨u, rfl⟩ := hval j vj hj
  exact PySem.P.lt_str h
section
variable {prog : Program} {w : World} {A : Around} {E : Value → Shared → Prop} {s : Shared} {l : Addr}
theorem iter_any {items : Array Value} {Q : Value → Shared → Prop} (hl : s.heap.IsList l items)
    (h : ∀ s₂ : Shared, s₂ = { s with heap := s.heap.push { cls := .type "list_iterator", data := .fields #[.ref l, .int 0 0] } } →
      (s₂.heap.IsListIter s.heap.objs.size l 0 ∧ s₂.heap.IsList l items) → (∀ b ∈ [s.heap.objs.size, l], b < s₂.heap.objs.size) → l ≠ s.heap.objs.size → Q (.ref s.heap.objs.size) s₂) :
    wpAny (model prog w) A (pyIter (.ref l)) Q E s := by
  have hlt : l < s.heap.objs.size := by obtain ⟨_, e, _⟩ := hl; exact Heap.lt_size e
  refine wpAny_pyIter_list hl (h _ rfl ⟨⟨_, Heap.get?_push_size _ rfl, rfl, rfl⟩, hl.push _⟩ (fun b hb => ?_) (Nat.ne_of_lt hlt))
  show b < (s.heap.push _).objs.size
  rw [Heap.size_push]
  rcases List.mem_cons.mp hb with rfl | hb
  · exact Nat.lt_succ_self _
  · rcases List.mem_cons.mp hb with rfl | hb
    · exact Nat.lt_succ_of_lt hlt
    · cases hb
theorem min_strs {its : List Value} {ss : List Str} {Q : Value → Shared → Prop} (hh : A.handled = none) (hl : s.heap.IsList l its.toArray) (hv : Vals (ss.map V.str) its) (hne : 0 < ss.length)
    (h : ∀ h' tk m t', (∀ b o, s.heap.get? b = some o → h'.get? b = some o) → m ∈ ss → (∀ y ∈ ss, ¬ y.cps.toList < m.cps.toList) → Q (.str m t') { s with heap := h', toks := tk }) :
    wpAny (model prog w) A (call (.builtin "min") [.ref l]) Q E s := by
  have hlen : its.length = ss.length := by rw [← hv.length, List.length_map]
  have hat : ∀ i v, its.toArray[i]? = some v → ∃ t, v = Value.str (ss.getD i default) t := fun i v hi => by
    rw [List.getElem?_toArray] at hi
    obtain ⟨k, t, h1, rfl⟩ := Tv.strs_hasM hv i v hi
    exact ⟨t, by rw [List.getD_eq_getElem?_getD, h1]; rfl⟩
  refine call_min_walk (iter_any hl fun s₂ e st hfp hlI => ?_)
  subst e
  refine ⟨_, _, _, _, _, _, _, rfl, Walks.list (A := A.in1) hh _ l hlI its.toArray, st, hfp, by simpa using (by omega : 0 < its.length), cmpOf_strs (fun i => ss.getD i default) hat, fun v h' tk hP hk => ?_⟩
  have hP' : its.toArray[argBest (fun i j => decide ((ss.getD i default).cps.toList < (ss.getD j default).cps.toList)) (its.length - 1)]? = some v := by simpa using hP
  obtain ⟨t, rfl⟩ := hat _ v hP'
  obtain ⟨h1, h2⟩ := argBest_ltS (fun i => (ss.getD i default).cps.toList) (its.length - 1)
  refine h h' tk _ t (old_kept hk) ?_ fun y hy => ?_
  · rw [List.getD_eq_getElem?_getD, List.getElem?_eq_getElem (by omega)]
    exact List.getElem_mem _
  · obtain ⟨j, hj, rfl⟩ := List.getElem_of_mem hy
    have := h2 j (by omega)
    simp only [List.getD_eq_getElem?_getD, List.getElem?_eq_getElem hj, Option.getD_some] at this
    simpa only [List.getD_eq_getElem?_getD] using this
end
end Tv

set_option Elab.async false
set_option linter.all false
set_option maxRecDepth 100000
/-! The built-ins by values. -/
namespace Tv
open PySem PySem.Spec PyProof.Rows L2

/-! ### sorted lists are one -/
theorem insI_perm (x : Int) : ∀ l, (insI x l).Perm (x :: l)
  | [] => .refl _
  | y :: r => by
    unfold insI
    split
    · exact .refl _
    · exact ((insI_perm x r).cons y).trans (.swap x y r)
theorem sortI_perm : ∀ l, (sortI l).Perm l
  | [] => .refl _
  | x :: r => (insI_perm x (sortI r)).trans ((sortI_perm r).cons x)
theorem insI_sorted (x : Int) : ∀ l, l.Pairwise (· ≤ ·) → (insI x l).Pairwise (· ≤ ·)
  | [], _ => by simp [insI]
  | y :: r, h => by
    have h' := List.pairwise_cons.mp h
    unfold insI
    split
    · rename_i hxy
      exact List.pairwise_cons.mpr ⟨fun z hz => by
        rcases List.mem_cons.mp hz with rfl | hz
        · exact hxy
        · exact Int.le_trans hxy (h'.1 z hz), h⟩
    · rename_i hxy
      refine List.pairwise_cons.mpr ⟨fun z hz => ?_, insI_sorted x r h'.2⟩
      rcases List.mem_cons.mp ((insI_perm x r).mem_iff.mp hz) with rfl | hz
      · omega
      · exact h'.1 z hz
theorem sortI_sorted : ∀ l, (sortI l).Pairwise (· ≤ ·)
  | [] => .nil
  | x :: r => insI_sorted x _ (sortI_sorted r)
theorem sorted_one {ns ms : List Int} (p : ns.Perm ms) (hn : ns.Pairwise (· ≤ ·)) (hm : ms.Pairwise (· ≤ ·)) : ns = ms :=
  p.eq_of_pairwise (fun a b _ _ h1 h2 => Int.le_antisymm h1 h2) hn hm
theorem sortI_eq {ns ms : List Int} (p : ms.Perm ns) (h : ms.Pairwise (· ≤ ·)) : ms = sortI ns :=
  sorted_one (p.trans (sortI_perm ns).symm) h (sortI_sorted ns)

theorem insS_perm (x : Str) : ∀ l, (insS x l).Perm (x :: l)
  | [] => .refl _
  | y :: r => by
    unfold insS
    split
    · exact .refl _
    · exact ((insS_perm x r).cons y).trans (.swap x y r)
theorem sortS_perm : ∀ l, (sortS l).Perm l
  | [] => .refl _
  | x :: r => (insS_perm x (sortS r)).trans ((sortS_perm r).cons x)
theorem str_ext {x y : Str} (h : x.cps.toList = y.cps.toList) : x = y := by
  obtain ⟨a⟩ := x; obtain ⟨b⟩ := y
  have : a = b := Array.toList_inj.mp h
  rw [this]
theorem lst_tri {a b : List Nat} (h1 : ¬ a < b) (h2 : ¬ b < a) : a = b := List.le_antisymm (List.not_lt.mp h2) (List.not_lt.mp h1)
theorem leS_total (x y : Str) (h : leS x y = false) : leS y x = true := by
  unfold leS at h ⊢
  simp only [Bool.not_eq_false', decide_eq_true_eq] at h
  simp only [Bool.not_eq_true', decide_eq_false_iff_not]
  exact List.not_lt.mpr (List.le_of_lt h)
theorem leS_trans {x y z : Str} (h : leS x y = true) (k : leS y z = true) : leS x z = true := by
  unfold leS at h k ⊢
  simp only [Bool.not_eq_true', decide_eq_false_iff_not] at h k ⊢
  exact List.not_lt.mpr (List.le_trans (List.not_lt.mp h) (List.not_lt.mp k))
theorem leS_anti {x y : Str} (h : leS x y = true) (k : leS y x = true) : x = y := by
  unfold leS at h k
  simp only [Bool.not_eq_true', decide_eq_false_iff_not] at h k
  exact str_ext (List.le_antisymm (List.not_lt.mp h) (List.not_lt.mp k))
theorem insS_sorted (x : Str) : ∀ l, l.Pairwise (fun a b => leS a b = true) → (insS x l).Pairwise (fun a b => leS a b = true)
  | [], _ => by simp [insS]
  | y :: r, h => by
    have h' := List.pairwise_cons.mp h
    unfold insS
    split
    · rename_i hxy
      exact List.pairwise_cons.mpr ⟨fun z hz => by
        rcases List.mem_cons.mp hz with rfl | hz
        · exact hxy
        · exact leS_trans hxy (h'.1 z hz), h⟩
    · rename_i hxy
      refine List.pairwise_cons.mpr ⟨fun z hz => ?_, insS_sorted x r h'.2⟩
      rcases List.mem_cons.mp ((insS_perm x r).mem_iff.mp hz) with rfl | hz
      · exact leS_total _ _ (by simpa using hxy)
      · exact h'.1 z hz
theorem sortS_sorted : ∀ l, (sortS l).Pairwise (fun a b => leS a b = true)
  | [] => .nil
  | x :: r => insS_sorted x _ (sortS_sorted r)
theorem rising_pair : ∀ (l : List Str) (p : Str), risingS p l = true → (p :: l).Pairwise (fun a b => leS a b = true)
  | [], p, _ => by simp
  | x :: r, p, h => by
    have h' : (!decide (x.cps.toList < p.cps.toList)) = true ∧ risingS x r = true := by
      have h2 : (!ltCps x.cps.toList p.cps.toList && risingS x r) = true := h
      rw [ltCps_eq] at h2
      exact Bool.and_eq_true_iff.mp h2
    have ih := rising_pair r x h'.2
    have hp : leS p x = true := h'.1
    refine List.pairwise_cons.mpr ⟨fun z hz => ?_, ih⟩
    rcases List.mem_cons.mp hz with rfl | hz
    · exact hp
    · exact leS_trans hp ((List.pairwise_cons.mp ih).1 z hz)
theorem sortS_eq {ns ms : List Str} (p : ms.Perm ns) (h : PyProof.Rows.sortedS ms = true) : ms = sortS ns := by
  have h2 : ms.Pairwise (fun a b => leS a b = true) := by
    cases ms with
    | nil => exact .nil
    | cons x r => exact rising_pair r x h
  exact (p.trans (sortS_perm ns).symm).eq_of_pairwise (fun a b _ _ h1 h2 => leS_anti h1 h2) h2 (sortS_sorted ns)

theorem minI_mem : ∀ {l : List Int} {m : Int}, minI l = some m → m ∈ l ∧ ∀ y ∈ l, m ≤ y
  | [], m, h => by simp [minI] at h
  | x :: r, m, h => by
    simp only [minI] at h
    cases e : minI r with
    | none =>
      rw [e] at h; cases h
      have : r = [] := by
        cases r with
        | nil => rfl
        | cons y r => simp only [minI] at e; split at e <;> cases e
      subst this; simp
    | some k =>
      rw [e] at h
      obtain ⟨h1, h2⟩ := minI_mem e
      simp only [Option.some.injEq] at h
      subst h
      split
      · rename_i hk
        exact ⟨List.mem_cons_self, fun y hy => by
          rcases List.mem_cons.mp hy with rfl | hy
          · exact Int.le_refl _
          · exact Int.le_trans hk (h2 y hy)⟩
      · exact ⟨List.mem_cons_of_mem _ h1, fun y hy => by
          rcases List.mem_cons.mp hy with rfl | hy
          · omega
          · exact h2 y hy⟩
theorem maxI_mem : ∀ {l : List Int} {m : Int}, maxI l = some m → m ∈ l ∧ ∀ y ∈ l, y ≤ m
  | [], m, h => by simp [maxI] at h
  | x :: r, m, h => by
    simp only [maxI] at h
    cases e : maxI r with
    | none =>
      rw [e] at h; cases h
      have : r = [] := by
        cases r with
        | nil => rfl
        | cons y r => simp only [maxI] at e; split at e <;> cases e
      subst this; simp
    | some k =>
      rw [e] at h
      obtain ⟨h1, h2⟩ := maxI_mem e
      simp only [Option.some.injEq] at h
      subst h
      split
      · rename_i hk
        exact ⟨List.mem_cons_self, fun y hy => by
          rcases List.mem_cons.mp hy with rfl | hy
          · exact Int.le_refl _
          · exact Int.le_trans (h2 y hy) hk⟩
      · exact ⟨List.mem_cons_of_mem _ h1, fun y hy => by
          rcases List.mem_cons.mp hy with rfl | hy
          · omega
          · exact h2 y hy⟩

section
variable {X : Cx} {K : PySem.W.Frag} {XR : Nat → Addr → Hp → Prop} {F : Addr → Prop} {γ : List Addr} {H : Hp}
def rB1 (o : Bi1) : List V → Hp → VK → Prop := fun vs H Q => ∃ XR F γ a d x, vs = [x] ∧ OpV X.K XR F γ H a x ∧ b1D o a = some d ∧ ∀ v H', Got X.K XR F γ H d v H' → Q v H'
theorem RpL.of_bls : ∀ (ns : List Bool), RpL K XR F γ H (ns.map D.bl) (ns.map V.bl)
  | [] => .nil
  | n :: r => .cons .bl (.of_bls r)
theorem len_ok : CallR X (.builtin "len") (rB1 (X := X) .len) := by
  intro pins s σ H vs us Q I r h
  obtain ⟨XR, F, γ, a, d, x, rfl, ha, e, q⟩ := h
  cases a with
  | lst ds =>
    cases e
    obtain ⟨p, xs, rfl, e1, r1⟩ := ha.lst
    refine call_len_seq pins s σ H _ us Q I r ⟨_, _, rfl, .inl (SqL.of e1), ?_⟩
    rw [r1.len]; exact q _ _ (got_int _)
  | tup ds =>
    cases e
    unfold OpV Rp at ha
    obtain ⟨p, xs, rfl, e1, r1⟩ := ha
    refine call_len_seq pins s σ H _ us Q I r ⟨_, _, rfl, .inr e1, ?_⟩
    rw [r1.len]; exact q _ _ (got_int _)
  | str z =>
    simp only [b1D] at e
    split at e
    · cases e
      have := ha.str; subst this
      exact call_len_str pins s σ H _ us Q I r ⟨_, rfl, cap_le ‹_›, q _ _ (got_int _)⟩
    · cases e
  | _ => simp [b1D] at e
theorem sorted_ok : CallR X (.builtin "sorted") (rB1 (X := X) .sorted) := by
  intro pins s σ H vs us Q I r h
  obtain ⟨XR, F, γ, a, d, x, rfl, ha, e, q⟩ := h
  cases a with
  | lst ds =>
    obtain ⟨p, xs, rfl, e1, r1⟩ := ha.lst
    simp only [b1D, sortD] at e
    split at e
    · rename_i ns hn
      cases e
      obtain ⟨rfl, rfl⟩ := r1.getIs hn
      refine cr_sortedI pins s σ H _ us Q I r ⟨_, ns, rfl, SqL.of e1, fun ns' p' hp hs hn' => ?_⟩
      rw [sortI_eq hp hs]
      exact q _ _ (got_lst hn' (.of_ints _))
    · split at e
      · rename_i ss hn
        split at e
        · rename_i h64
          cases e
          obtain ⟨rfl, rfl⟩ := r1.getSs hn
          refine cr_sortedS pins s σ H _ us Q I r ⟨_, ss, rfl, SqL.of e1, h64, fun ns' p' hp hs hn' => ?_⟩
          rw [sortS_eq hp hs]
          exact q _ _ (got_lst hn' (.of_strs _))
        · cases e
      · split at e
        · rename_i sh hok
          cases e
          exact sorted_tups pins s σ H _ us Q I r ⟨XR, F, γ, sh, p, ds, xs, rfl, e1, r1, hok, fun ys p' hr hn => q _ _ (got_lst hn hr)⟩
        · cases e
  | _ => simp [b1D] at e
theorem sum_ok (hc : X.calm = true) : CallR X (.builtin "sum") (rB1 (X := X) .sum) := by
  intro pins s σ H vs us Q I r h
  obtain ⟨XR, F, γ, a, d, x, rfl, ha, e, q⟩ := h
  cases a with
  | lst ds =>
    obtain ⟨p, xs, rfl, e1, r1⟩ := ha.lst
    simp only [b1D, Option.map_eq_some_iff] at e
    obtain ⟨ns, hn, rfl⟩ := e
    obtain ⟨rfl, rfl⟩ := r1.getIs hn
    exact cr_sum hc pins s σ H _ us Q I r ⟨_, ns, rfl, SqL.of e1, q _ _ (got_int _)⟩
  | _ => simp [b1D] at e
theorem min_ok (hc : X.calm = true) : CallR X (.builtin "min") (rB1 (X := X) .min) := by
  intro pins s σ H vs us Q I r h
  obtain ⟨XR, F, γ, a, d, x, rfl, ha, e, q⟩ := h
  cases a with
  | lst ds =>
    obtain ⟨p, xs, rfl, e1, r1⟩ := ha.lst
    simp only [b1D] at e
    split at e
    · rename_i ns hn
      rw [Option.map_eq_some_iff] at e
      obtain ⟨m, hm, rfl⟩ := e
      obtain ⟨rfl, rfl⟩ := r1.getIs hn
      obtain ⟨h1, h2⟩ := minI_mem hm
      refine cr_min hc pins s σ H _ us Q I r ⟨_, ns, rfl, SqL.of e1, List.length_pos_of_mem h1, fun k hk hle => ?_⟩
      have : k = m := Int.le_antisymm (hle m h1) (h2 k hk)
      rw [this]; exact q _ _ (got_int _)
    · split at e
      · rename_i ss hn
        rw [Option.map_eq_some_iff] at e
        obtain ⟨m, hm, rfl⟩ := e
        obtain ⟨rfl, rfl⟩ := r1.getSs hn
        obtain ⟨h1, h2⟩ := minS_mem hm
        obtain ⟨its, rv, hl, _⟩ := I.list (SqL.of e1)
        rw [Vals.ref1 r]
        refine min_strs (I.ok.hd hc) hl.isList rv (List.length_pos_of_mem h1) fun h' tk k t' hk hk1 hle => ?_
        have : k = m := str_ext (lst_tri (h2 k hk1) (hle m h1))
        subst this
        exact ⟨.str k, H, I.kept hk, ⟨_, rfl⟩, q _ _ (got_str _)⟩
      · cases e
  | _ => simp [b1D] at e
theorem max_ok (hc : X.calm = true) : CallR X (.builtin "max") (rB1 (X := X) .max) := by
  intro pins s σ H vs us Q I r h
  obtain ⟨XR, F, γ, a, d, x, rfl, ha, e, q⟩ := h
  cases a with
  | lst ds =>
    obtain ⟨p, xs, rfl, e1, r1⟩ := ha.lst
    simp only [b1D, Option.bind_eq_some_iff, Option.map_eq_some_iff] at e
    obtain ⟨ns, hn, m, hm, rfl⟩ := e
    obtain ⟨rfl, rfl⟩ := r1.getIs hn
    obtain ⟨h1, h2⟩ := maxI_mem hm
    refine cr_max hc pins s σ H _ us Q I r ⟨_, ns, rfl, SqL.of e1, List.length_pos_of_mem h1, fun k hk hle => ?_⟩
    have : k = m := Int.le_antisymm (h2 k hk) (hle m h1)
    rw [this]; exact q _ _ (got_int _)
  | _ => simp [b1D] at e
theorem all_ok (hc : X.calm = true) : CallR X (.builtin "all") (rB1 (X := X) .all) := by
  intro pins s σ H vs us Q I r h
  obtain ⟨XR, F, γ, a, d, x, rfl, ha, e, q⟩ := h
  cases a with
  | lst ds =>
    obtain ⟨p, xs, rfl, e1, r1⟩ := ha.lst
    simp only [b1D, Option.map_eq_some_iff] at e
    obtain ⟨ns, hn, rfl⟩ := e
    obtain ⟨rfl, rfl⟩ := r1.getBs hn
    exact cr_all hc pins s σ H _ us Q I r ⟨_, ns, rfl, SqL.of e1, q _ _ (got_bl _)⟩
  | _ => simp [b1D] at e
theorem any_ok (hc : X.calm = true) : CallR X (.builtin "any") (rB1 (X := X) .any) := by
  intro pins s σ H vs us Q I r h
  obtain ⟨XR, F, γ, a, d, x, rfl, ha, e, q⟩ := h
  cases a with
  | lst ds =>
    obtain ⟨p, xs, rfl, e1, r1⟩ := ha.lst
    simp only [b1D, Option.map_eq_some_iff] at e
    obtain ⟨ns, hn, rfl⟩ := e
    obtain ⟨rfl, rfl⟩ := r1.getBs hn
    exact cr_any hc pins s σ H _ us Q I r ⟨_, ns, rfl, SqL.of e1, q _ _ (got_bl _)⟩
  | _ => simp [b1D] at e
theorem RpL.of_chars (z : Str) : RpL K XR F γ H (chars z) (z.cps.toList.map fun c => V.str ⟨#[c]⟩) := by
  have := RpL.of_strs (K := K) (XR := XR) (F := F) (γ := γ) (H := H) (z.cps.toList.map fun c => (⟨#[c]⟩ : Str))
  rw [List.map_map, List.map_map] at this
  exact this
theorem vals_chars {z : Str} {acc : Array Value} (h : ItemsOf (SignAt z) acc z.cps.size) : Vals (z.cps.toList.map fun c => V.str ⟨#[c]⟩) acc.toList := by
  refine vals_of_at (by rw [List.length_map, Array.length_toList, Array.length_toList, h.1]) fun j x u h1 h2 => ?_
  rw [Array.getElem?_toList] at h2
  obtain ⟨c, t, e1, rfl⟩ := h.2 j u h2
  rw [List.getElem?_map, Array.getElem?_toList, e1] at h1
  cases h1
  exact ⟨t, rfl⟩
theorem list_ok (hc : X.calm = true) : CallR X (.type "list") (rB1 (X := X) .list) := by
  intro pins s σ H vs us Q I r h
  obtain ⟨XR, F, γ, a, d, x, rfl, ha, e, q⟩ := h
  cases a with
  | str z =>
    simp only [b1D] at e
    split at e
    · rename_i hz
      cases e
      have := ha.str; subst this
      obtain ⟨u, rfl, rx⟩ := vals1 r
      obtain ⟨t, rfl⟩ := rx
      have hz' : z.cps.size ≤ sizeLine := cap_le hz
      refine call_list_str (I.ok.hd hc) z t (fun h' tk acc c kp e hi => ?_) hz'
      refine ⟨.ref s.heap.objs.size, upd H s.heap.objs.size (.lst (z.cps.toList.map fun c => V.str ⟨#[c]⟩)), I.laid (t' := tk) kp (Nat.le_refl _) (show ObjOk X.prog X.w _ h' _ (.lst _) from ⟨?_, acc.toList, c, vals_chars hi, ?_⟩), rfl, q _ _ (got_lst (I.hok.fresh (Nat.le_refl _)) (.of_chars z))⟩
      · rw [List.length_map, Array.length_toList]; exact hz'
      · rw [Array.toArray_toList]; exact e
    · cases e
  | lst ds =>
    cases e
    obtain ⟨p, xs, rfl, e1, r1⟩ := ha.lst
    exact call_list_of pins s σ H _ us Q I r ⟨_, _, rfl, .inl (SqL.of e1), fun l hl => q _ _ (got_lst hl r1)⟩
  | tup ds =>
    cases e
    unfold OpV Rp at ha
    obtain ⟨p, xs, rfl, e1, r1⟩ := ha
    exact call_list_of pins s σ H _ us Q I r ⟨_, _, rfl, .inr e1, fun l hl => q _ _ (got_lst hl r1)⟩
  | _ => simp [b1D] at e
theorem abs_ok : CallR X (.builtin "abs") (rB1 (X := X) .abs) := by
  intro pins s σ H vs us Q I r h
  obtain ⟨XR, F, γ, a, d, x, rfl, ha, e, q⟩ := h
  cases a with
  | int i =>
    cases e
    have := ha.int; subst this
    exact call_abs pins s σ H _ us Q I r ⟨_, rfl, q _ _ (got_int _)⟩
  | _ => simp [b1D] at e
theorem str_ok : CallR X (.type "str") (rB1 (X := X) .str) := by
  intro pins s σ H vs us Q I r h
  obtain ⟨XR, F, γ, a, d, x, rfl, ha, e, q⟩ := h
  cases a with
  | int i =>
    simp only [b1D] at e
    split at e
    · rename_i hi
      cases e
      have := ha.int; subst this
      refine call_str_int pins s σ H _ us Q I r ⟨_, rfl, ?_, q _ _ (got_str _)⟩
      have : i.natAbs.log2 < 64 := by
        by_cases h0 : i.natAbs = 0
        · rw [h0]; decide
        · exact (Nat.log2_lt h0).mpr hi
      omega
    · cases e
  | _ => simp [b1D] at e
def rB2 (o : Bi2) : List V → Hp → VK → Prop := fun vs H Q => ∃ XR F γ a b d x y, vs = [x, y] ∧ OpV X.K XR F γ H a x ∧ OpV X.K XR F γ H b y ∧ b2D o a b = some d ∧ ∀ v H', Got X.K XR F γ H d v H' → Q v H'
theorem min2_ok (hc : X.calm = true) : CallR X (.builtin "min") (rB2 (X := X) .min) := by
  intro pins s σ H vs us Q I r h
  obtain ⟨XR, F, γ, a, b, d, x, y, rfl, ha, hb, e, q⟩ := h
  unfold b2D at e
  split at e
  · rename_i hh; cases e; have := ha.int; have := hb.int; subst x y
    exact call_min2 hc pins s σ H _ us Q I r ⟨_, _, rfl, q _ _ (got_int _)⟩
  · rename_i hh; cases hh
  · cases e
theorem max2_ok (hc : X.calm = true) : CallR X (.builtin "max") (rB2 (X := X) .max) := by
  intro pins s σ H vs us Q I r h
  obtain ⟨XR, F, γ, a, b, d, x, y, rfl, ha, hb, e, q⟩ := h
  unfold b2D at e
  split at e
  · rename_i hh; cases hh
  · cases e; have := ha.int; have := hb.int; subst x y
    exact call_max2 hc pins s σ H _ us Q I r ⟨_, _, rfl, q _ _ (got_int _)⟩
  · cases e
/-- isinstance(x, T), T a built-in class -/
def rIsT (t : String) (k : Ty) : List V → Hp → VK → Prop := fun vs H Q => ∃ XR F γ a b x, vs = [x, .ty t] ∧ OpV X.K XR F γ H a x ∧ isTy k a = some b ∧ Q (.bl b) H
def tyS : Ty → String | .int => "int" | .bool => "bool" | .list => "list" | .str => "str"
theorem isT_ok (k : Ty) : CallR X (.builtin "isinstance") (rIsT (X := X) (tyS k) k) := by
  intro pins s σ H vs us Q I r h
  obtain ⟨XR, F, γ, a, b, x, rfl, ha, e, q⟩ := h
  cases a with
  | non =>
    unfold OpV Rp at ha; subst ha
    refine call_isi pins s σ H _ us Q I r ⟨_, _, .type "NoneType", .type (tyS k), b, rfl, .ty _, .base .non, ?_, q⟩
    cases k <;> (cases e; exact kit_ty (by decide +kernel))
  | bl y =>
    have := ha.bl; subst this
    refine call_isi pins s σ H _ us Q I r ⟨_, _, .type "bool", .type (tyS k), b, rfl, .ty _, .base (.bl _), ?_, q⟩
    cases k <;> (cases e; exact kit_ty (by decide +kernel))
  | int y =>
    have := ha.int; subst this
    refine call_isi pins s σ H _ us Q I r ⟨_, _, .type "int", .type (tyS k), b, rfl, .ty _, .base (.int _), ?_, q⟩
    cases k <;> (cases e; exact kit_ty (by decide +kernel))
  | str y =>
    have := ha.str; subst this
    refine call_isi pins s σ H _ us Q I r ⟨_, _, .type "str", .type (tyS k), b, rfl, .ty _, .base (.str _), ?_, q⟩
    cases k <;> (cases e; exact kit_ty (by decide +kernel))
  | lst ds =>
    obtain ⟨p, xs, rfl, e1, r1⟩ := ha.lst
    refine call_isi pins s σ H _ us Q I r ⟨_, _, .type "list", .type (tyS k), b, rfl, .ty _, .base (.lst e1), ?_, q⟩
    cases k <;> (cases e; exact kit_ty (by decide +kernel))
  | tup ds =>
    unfold OpV Rp at ha
    obtain ⟨p, xs, rfl, e1, r1⟩ := ha
    have z : PySem.W.kitOne X.K (.type "tuple") (.type (tyS k)) = some b := by
      cases k <;> (cases e; exact kit_ty (by decide +kernel))
    rcases e1 with (e1 | ⟨o, e1⟩) | ⟨o, its, n, e1, c, _⟩
    · exact call_isi pins s σ H _ us Q I r ⟨_, _, .type "tuple", .type (tyS k), b, rfl, .ty _, .base (.tup e1), z, q⟩
    · exact call_isi pins s σ H _ us Q I r ⟨_, _, .type "tuple", .type (tyS k), b, rfl, .ty _, .fTuple e1, z, q⟩
    · exact call_isi pins s σ H _ us Q I r ⟨_, _, .type "tuple", .type (tyS k), b, rfl, .ty _, .kTuple e1 c, z, q⟩
  | exc c => cases k <;> cases e
  | cell c => cases k <;> cases e
  | scr c => cases k <;> cases e
  | ins c => cases k <;> cases e

/-! ### items, slices, index -/
theorem atI_rp {ds : List D} {xs : List V} {k : Int} {d : D} (r : RpL K XR F γ H ds xs) (e : L2.atI ds k = some d) : ∃ v, L2.atI xs k = some v ∧ Rp K XR F γ H d v := by
  unfold L2.atI at e ⊢
  rw [r.len]
  cases h : ixN ds.length k with
  | none => rw [h] at e; cases e
  | some j =>
    rw [h] at e
    exact r.get e
def rSubD : R2 := fun x y H Q => ∃ XR F γ a k d, OpV X.K XR F γ H a x ∧ y = .int k ∧ subD a k = some d ∧ ∀ v, Rp X.K XR F γ H d v → Q v H
theorem sub_ok : IxR X (rSubD (X := X)) := by
  intro value slice pins s σ H x y v u Q I rx ry h hs
  obtain ⟨XR, F, γ, a, k, d, ha, rfl, e, q⟩ := h
  cases a with
  | lst ds =>
    obtain ⟨p, xs, rfl, e1, r1⟩ := ha.lst
    obtain ⟨z, e2, r2⟩ := atI_rp r1 e
    exact ix_list value slice pins s σ H _ _ v u Q I rx ry ⟨_, _, _, _, rfl, rfl, SqL.of e1, e2, q _ r2⟩ hs
  | tup ds =>
    unfold OpV Rp at ha
    obtain ⟨p, xs, rfl, e1, r1⟩ := ha
    obtain ⟨z, e2, r2⟩ := atI_rp r1 e
    exact ix_tup value slice pins s σ H _ _ v u Q I rx ry ⟨_, _, _, _, rfl, rfl, e1, e2, q _ r2⟩ hs
  | str z =>
    simp only [subD] at e
    split at e
    · rename_i hz
      simp only [Option.map_eq_some_iff] at e
      obtain ⟨c, e, rfl⟩ := e
      have := ha.str; subst this
      exact ix_str value slice pins s σ H _ _ v u Q I rx ry ⟨_, _, _, rfl, rfl, cap_le hz, e, q _ .str⟩ hs
    · cases e
  | _ => cases e
def rCutD : V → Option Int → Option Int → Hp → VK → Prop := fun x lo hi H Q => ∃ XR F γ a d, OpV X.K XR F γ H a x ∧ cutE a lo hi = some d ∧ ∀ v H', Got X.K XR F γ H d v H' → Q v H'
theorem cut_ok : SlR X (rCutD (X := X)) := by
  intro pins s σ H x v vl vu lo hi sl Q I rx hs pl pu h
  obtain ⟨XR, F, γ, a, d, ha, e, q⟩ := h
  cases a with
  | lst ds =>
    cases e
    obtain ⟨p, xs, rfl, e1, r1⟩ := ha.lst
    refine sl_list pins s σ H _ v vl vu lo hi sl Q I rx hs pl pu ⟨_, _, rfl, SqL.of e1, fun p hp => q _ _ (got_lst hp ?_)⟩
    unfold cutV cutD
    rw [r1.len]
    exact (r1.drop _).take _
  | str z =>
    simp only [cutE] at e
    split at e
    · rename_i hz
      cases e
      have := ha.str; subst this
      refine sl_str pins s σ H _ v vl vu lo hi sl Q I rx hs pl pu ⟨_, rfl, cap_le hz, ?_⟩
      have z2 : cutS z lo hi = ⟨(cutD z.cps.toList lo hi).toArray⟩ := by
        unfold cutS cutD Str.length
        simp only [Array.length_toList]
      rw [z2]
      exact q _ _ (got_str _)
    · cases e
  | _ => cases e
theorem idx_some : ∀ {ds : List D} {a : D} {n : Nat}, idxD ds a = some n → (∃ z, ds[n]? = some z ∧ eqD z a = true) ∧ ∀ m z, m < n → ds[m]? = some z → eqD z a = false
  | [], a, n, h => by simp [idxD] at h
  | x :: r, a, n, h => by
    simp only [idxD] at h
    split at h
    · rename_i hx
      cases h
      exact ⟨⟨x, rfl, hx⟩, fun m z hm => absurd hm (Nat.not_lt_zero _)⟩
    · rename_i hx
      simp only [Option.map_eq_some_iff] at h
      obtain ⟨k, hk, rfl⟩ := h
      obtain ⟨⟨z, h1, h2⟩, h3⟩ := idx_some hk
      refine ⟨⟨z, by simpa using h1, h2⟩, fun m y hm hy => ?_⟩
      cases m with
      | zero => simp at hy; subst hy; simpa using hx
      | succ m => exact h3 m y (by omega) (by simpa using hy)
theorem toPyL_get : ∀ {ds : List D} {n : Nat}, (toPyL ds)[n]? = (ds[n]?).map toPy
  | [], n => by simp [toPyL]
  | d :: ds, 0 => by simp [toPyL]
  | d :: ds, n + 1 => by simp [toPyL, toPyL_get (ds := ds) (n := n)]
theorem plnL_get : ∀ {n : Nat} {ds : List D} {m : Nat} {z : D}, plnL n ds = true → ds[m]? = some z → pln n z = true
  | n, [], m, z, _, e => by simp at e
  | n, d :: ds, 0, z, h, e => by
    have h' : pln n d = true ∧ plnL n ds = true := by simpa [plnL] using h
    simp at e; subst e; exact h'.1
  | n, d :: ds, m + 1, z, h, e => by
    have h' : pln n d = true ∧ plnL n ds = true := by simpa [plnL] using h
    exact plnL_get (m := m) h'.2 (by simpa using e)
def rIdx : V → List V → Hp → VK → Prop := fun x vs H Q => ∃ XR F γ a b n y, vs = [y] ∧ OpV X.K XR F γ H (.lst a) x ∧ OpV X.K XR F γ H b y ∧ pln 8 b = true ∧ plnL 8 a = true ∧ idxD a b = some n ∧ Q (.int n) H
theorem idx_ok (hu : X.A.units + 65 < cLine) : MtR X "list.index" (rIdx (X := X)) := by
  intro pins s σ H x xs v us Q I rx rxs h
  obtain ⟨XR, F, γ, a, b, n, y, rfl, ha, hb, p1, p2, e, q⟩ := h
  obtain ⟨p, xs, rfl, e1, r1⟩ := ha.lst
  obtain ⟨⟨z, h1, h2⟩, h3⟩ := idx_some e
  refine mt_indexD hu pins s σ H _ _ v us Q I rx rxs ⟨_, _, toPy b, toPyL a, n, toPy z, rfl, rfl, .lst (SqL.of e1) (dpl_of 8 _ _ p2 r1), hb.dp p1, shapedL_of p2, shaped_of p1, by rw [toPyL_get, h1]; rfl, ?_, ?_, q⟩
  · rw [← eqD_py 8 8 z b (plnL_get p2 h1) p1]; exact h2
  · intro m z' hm hz
    rw [toPyL_get] at hz
    simp only [Option.map_eq_some_iff] at hz
    obtain ⟨w, hw, rfl⟩ := hz
    rw [← eqD_py 8 8 w b (plnL_get p2 hw) p1]
    exact h3 m w hm hw
end
end Tv

set_option Elab.async false
set_option linter.all false
set_option maxRecDepth 100000
/-! A caught exception that is kept: its class is known behind the catch. -/
namespace Tv
open PySem PySem.Spec PyProof.Rows L2

/-- an exception object of the class cls at a, raised and caught -/
def ExcH (cls : Value) (a : Addr) : HO := .ext fun h => ∃ oe : Obj, h.get? a = some oe ∧ Zc cls none oe ∧ ∃ vs, oe.data = .fields vs
theorem excH_ok {P : Program} {w : World} {H : Hp} {h : Heap} {a : Addr} {cls : Value} {oe : Obj} (e : h.get? a = some oe) (z : Zc cls none oe) (d : ∃ vs, oe.data = .fields vs) : ObjOk P w H h a (ExcH cls a) :=
  ⟨⟨oe, e, z, d⟩, ⟨oe, e⟩, fun _ _ ⟨o, q, r⟩ k => ⟨o, k o q, r⟩⟩
section
variable {X : Cx} {pins : List (Addr × Obj)} {σ : L2.St} {H : Hp} {s : Shared} {a : Addr} {o : HO}
/-- an object that was made since the def was entered and that nothing tracks, tracked from here on -/
theorem track (I : Inv X pins σ H s) (na : H a = none) (nL : a ≠ X.env.locals) (nC : ∀ x c, X.env.cells.lookup x = some c → c ≠ a) (np : ∀ p ∈ X.pn ++ pins, p.1 ≠ a) (h0 : X.s_0.heap.get? a = none)
    (new : ObjOk X.prog X.w (upd H a o) s.heap a o) : Inv X pins σ (upd H a o) s where
  ok := I.ok
  os := I.os
  bare := I.bare
  base := {
    keep := I.base.keep
    slot := I.base.slot
    free := fun b ob e n hx => by rw [upd_ne (fun z => by rw [z, h0] at e; cases e)]; exact I.base.free b ob e n hx
    there := I.base.there
    tups := fun b xs e => by
      have := I.base.tups b xs e
      rw [upd_ne (ne_of_none this na)]; exact this
    frzs := fun b ob u e => by
      have := I.base.frzs b ob u e
      rw [upd_ne (ne_of_none this na)]; exact this
    tbls := fun b ps e => by
      obtain ⟨more, this⟩ := I.base.tbls b ps e
      exact ⟨more, by rw [upd_ne (ne_of_none this na)]; exact this⟩ }
  loc := I.loc
  cell := I.cell
  free := by rw [upd_ne nL.symm]; exact I.free
  freeC := fun x c e => by rw [upd_ne (nC x c e)]; exact I.freeC x c e
  pin := fun p hp => by
    obtain ⟨p1, p2, p3, p4, p5⟩ := I.pin p hp
    exact ⟨p1, by rw [upd_ne (np p hp)]; exact p2, p3, p4, p5⟩
  hok := HOk.laidN I.hok (fun _ _ z => z) na new
  len := I.len
/-- behind the catch: e and then the name that keeps it hold the exception, e goes -/
def wKeep (K : PySem.W.Frag) (c : Value) (i j : Nat) (Wout : WX) (D : Ends) : WX := fun cls d σ H =>
  ∃ b, PySem.W.exmOne K cls c = some b ∧ (b = true → d = none ∧ ∀ a, H a = none → D.nx (((σ.set i (some (.ref a))).set j (some (.ref a))).set i none) (upd H a (ExcH cls a))) ∧ (b = false → Wout cls d σ H)
end
section
variable {X : Cx} {x n y : Str} {c : Value} {i j : Nat} {body : List Stmt} {np p1 p2 p3 pos pos' : Pos} {tb : WX → TS} {Wout : WX}
theorem ps_try_keep (hs : X.stack = X.env :: X.outer) (hf : X.env.frame = some X.env.locals) (hex : X.ex = []) (hN : X.N.Nodup) (hi : X.N[i]? = some n) (hln : X.env.kindOf n = some .local) (hj : X.N[j]? = some y) (hly : X.env.kindOf y = some .local)
    (hij : i ≠ j) (hlen : i < X.N.length) (hvis : Vis X.env.scope n) (hd : (n == ("__debug__" : Str)) = false) (hd2 : (n == ("__classdict__" : Str)) = false) (hc : Names X x c) (tk : Takes X Wout)
    (hb : ∀ (W : WX) (pn : List (Addr × Obj)) (xe : Value → Shared → Prop), Takes (X.tr pn xe) W → PassesOwn (model X.prog X.w) X.A X.env xe → PSs (X.tr pn xe) body (tb W)) :
    PS X (.Try body [.ExceptHandler (some (.Name x np)) (some n) [.Assign [.Name y p1] (.Name n p2) p3] pos'] [] [] pos) (fun D σ H => tb (wKeep X.K c i j Wout D) D σ H) := by
  refine ⟨fun pins s σ H D I h => ?_⟩
  have ok := I.ok
  have hfr : X.A.frames = some (X.env :: X.outer) := by rw [ok.frames, hs]
  refine wpAny_Try_except ?_
  refine wpAny_mono ((hb (wKeep X.K c i j Wout D) (X.pn ++ pins) (fun e s₁ => wpAny (model X.prog X.w) X.A (noteFrame e X.env) (fun _ s₂ => wpAny (model X.prog X.w) X.A (setFlight e none) (fun _ s₃ =>
    wpAny (model X.prog X.w) X.A (handleBy e X.env [.ExceptHandler (some (.Name x np)) (some n) [.Assign [.Name y p1] (.Name n p2) p3] pos']) (SP X pins D) X.xe s₃) X.xe s₂) X.xe s₁) (fun u s' xx => ?_) PassesOwn.looking).run [] s σ H D (I.toTry _) h) (fun f s1 hsp => ?_) (fun e s1 he => he)
  · obtain ⟨a, B, sI, pins', σ', H', cls, d, rfl, J', nb, up, sky, na, os, ag, b, hb1, hyes, hno⟩ := xx
    have J : Inv X pins σ' H' sI := J'.ofTry ok
    have sky' : Sky B (X.env :: X.outer) a (Zc cls d) X.env.locals s'.heap := by rw [← hs]; exact sky
    show wpAny (model X.prog X.w) X.A (noteFrame (.ref a) X.env) _ _ _
    refine Sky.land Zc.steady hfr hf sky' fun h3 fl3 up3 => ?_
    have J3 : Inv X pins σ' H' { s' with heap := h3 } := J.landed nb fl3.1 (up.trans up3) os ag
    obtain ⟨oe3, vs3, he3, hz3, hd3⟩ := fl3.there
    have nfr : a ∉ frs (X.env :: X.outer) := fun hm => by
      obtain ⟨_, o', e', hnf⟩ := fl3.2.2.1.mem hm
      rw [he3] at e'; cases e'
      exact hnf _ hd3
    have nL : a ≠ X.env.locals := fun z => nfr (List.mem_filterMap.mpr ⟨X.env, List.mem_cons_self, by rw [hf, z]⟩)
    have nF : a ∉ X.fs := fun hm => by
      obtain ⟨e, he, q⟩ := List.mem_filterMap.mp hm
      exact nfr (List.mem_filterMap.mpr ⟨e, List.mem_cons_of_mem _ he, q⟩)
    have S3 := J3.suite he3 hd3 na nL nF
    refine wpAny_handleBy_cons (codeAny_handlers_test ?_) (by intro q; cases q)
    have LT : PySem.W.Looks (model X.prog X.w) h3 (typeOf (.ref a)) cls := fun A Q E s k q => wpAny_typeOf_ref (k _ _ he3) (by rw [hz3.1]; exact q)
    have LM := PySem.W.exm_one (M := model X.prog X.w) (J3.kIn) LT hb1
    have test : ∀ {Q : Value → Shared → Prop} {E : Value → Shared → Prop}, Q c { s' with heap := h3 } → wpAny (model X.prog X.w) (X.A.mark (some (.ref a))) (eval (.Name x np) X.env) Q E { s' with heap := h3 } := fun {Q E} q => by
      obtain ⟨hg, hdbg, hm | ⟨hm, hv, hnn⟩⟩ := hc
      · exact ld_glob (X := X.suite a ((a, oe3) :: (X.pn ++ pins))) S3 hg hm q hdbg
      · exact ld_blt (X := X.suite a ((a, oe3) :: (X.pn ++ pins))) S3 hg hm hv q hnn hdbg
    refine test (LM.here ?_)
    cases b with
    | true =>
      obtain ⟨rfl, hy2⟩ := hyes rfl
      have aI : sI.heap.get? a = none := by
        cases q : sI.heap.get? a with
        | none => rfl
        | some o =>
          have z := nb a o q (by rw [hs]; exact nfr)
          rw [fl3.2.1] at z; cases z
      have a0 : X.s_0.heap.get? a = none := by
        cases q : X.s_0.heap.get? a with
        | none => rfl
        | some o =>
          obtain ⟨o', z⟩ := J.base.there a o q (by rw [hex]; exact List.not_mem_nil)
          rw [aI] at z; cases z
      refine codeAny_handlers_suite_as ?_
      refine HandSPX.lands_againZ fl3 fun h4 fl4 up4 => ?_
      have J4 : Inv X pins σ' H' { s' with heap := h4 } := J.landed nb fl4.1 ((up.trans up3).trans up4) os ag
      obtain ⟨oe4, vs4, he4, hz4, hd4⟩ := fl4.there
      have S4 := J4.suite he4 hd4 na nL nF
      refine store_ok (X := X.suite a ((a, oe4) :: (X.pn ++ pins))) (v := .ref a) S4 hN hi (.inl hln) rfl (fun s5 S5 => ?_) (.inr hln)
      have hset : PSs (X.suite a ((a, oe4) :: (X.pn ++ pins))) [.Assign [.Name y p1] (.Name n p2) p3] _ := pss_cons (ps_set hN hj (.inl hly) (pe_var hi hvis hd hd2) (by rfl) (.inr hly)) pss_nil
      refine wpAny_mono (hset.run [] s5 _ H' { nx := fun σ6 H6 => σ6 = (σ'.set i (some (.ref a))).set j (some (.ref a)) ∧ H6 = H', rt := fun _ _ => False, bk := fun _ _ => False, ct := fun _ _ => False } S5 ?_) (fun f s6 hsp => ?_) (fun _ _ z => False.elim z)
      · have hl : i < σ'.length := by rw [J.len]; exact hlen
        exact ⟨.ref a, by rw [List.getElem?_set_self hl], rfl, rfl⟩
      · cases f with
        | next =>
          obtain ⟨σ6, H6, S6, rfl, rfl⟩ := hsp
          refine gone_ok (X := X.suite a ((a, oe4) :: (X.pn ++ pins))) S6 hN hi hln fun s7 S7 => ?_
          obtain ⟨g1, g2, g3, g4, g5⟩ := S7.pin (a, oe4) (List.mem_append.mpr (.inl List.mem_cons_self))
          have J7 : Inv X pins _ H6 s7 := S7.unsuite ok
          refine ⟨_, _, track J7 na nL (fun x c e z => ?_) (fun p hp z => ?_) a0 (excH_ok g1 hz4 ⟨_, hd4⟩), hy2 a na⟩
          · obtain ⟨v, o, q1, q2⟩ := J7.cell x c e
            subst z
            rw [g1] at q1
            cases q1
            exact g5 v q2
          · have := (J.pin p hp).1
            rw [z, aI] at this; cases this
        | brk => obtain ⟨_, _, _, z⟩ := hsp; exact z.elim
        | cont => obtain ⟨_, _, _, z⟩ := hsp; exact z.elim
        | ret u => obtain ⟨_, _, _, _, _, z⟩ := hsp; exact z.elim
    | false =>
      show wpAny _ X.A (handleBy (.ref a) X.env []) _ _ _
      refine wpAny_handleBy_nil ?_
      obtain ⟨k1, k2, k3, oe, vs, T, oT, ts', he, hz, hd, h1, hr⟩ := id fl3
      unfold PySem.passOn
      refine wpAny_bind (wpAny_field he hd h1 ?_)
      rw [if_neg (show ¬ ((Value.ref T == Value.none) = true) from by simp)]
      have fin : wpAny (model X.prog X.w) X.A (setFlight (.ref a) X.env.frame) (fun _ s4 => wpAny (model X.prog X.w) X.A (throw (.ref a) : Sem Flow) (SP X pins D) X.xe s4) X.xe { s' with heap := h3 } := by
        rw [hf]
        refine HandSPX.setFlight_upZ fl3 fun h4 hh4 up4 => wpAny_throw (tk _ _ ?_)
        exact ⟨a, B, sI, pins, σ', H', cls, d, rfl, J, nb, (up.trans up3).trans up4, .inr (.inr (by rw [hs]; exact hh4)), na, os, ag, hno rfl⟩
      first
        | exact wpAny_bind (wpAny_pure (wpAny_bind fin))
        | exact wpAny_bind fin
  · cases f with
    | next =>
      obtain ⟨σ', H', J', q⟩ := hsp
      exact wpAny_execs_nil ⟨σ', H', J'.ofTry ok, q⟩
    | brk =>
      obtain ⟨σ', H', J', q⟩ := hsp
      exact ⟨σ', H', J'.ofTry ok, q⟩
    | cont =>
      obtain ⟨σ', H', J', q⟩ := hsp
      exact ⟨σ', H', J'.ofTry ok, q⟩
    | ret u =>
      obtain ⟨v, σ', H', J', r, q⟩ := hsp
      exact ⟨v, σ', H', J'.ofTry ok, r, q⟩
end
/-- isinstance(x, c), x a kept exception -/
def rIsK (K : PySem.W.Frag) : List V → Hp → VK → Prop := fun xs H Q => ∃ (a D : Addr) (c : V) (cv : Value) (b : Bool), xs = [.ref a, c] ∧ H a = some (ExcH (.ref D) a) ∧ ExcC K D ∧ (∀ u, RelV c u → u = cv) ∧ PySem.W.kitOne K (.ref D) cv = some b ∧ Q (.bl b) H
theorem call_isK {X : Cx} : CallR X (.builtin "isinstance") (rIsK X.K) := by
  intro pins s σ H xs us Q I r h
  obtain ⟨a, D, c, cv, b, rfl, ha, C, hcv, e, q⟩ := h
  cases r with
  | cons rx rr =>
    cases rr with
    | cons rt rr =>
      cases rr
      cases rx
      have ec := hcv _ rt
      subst ec
      obtain ⟨⟨oe, hget, hz, vs, hv⟩, _⟩ := I.hok a _ ha
      have J : PySem.W.InstAt s.heap a oe D none := by
        obtain ⟨oc, od, oda, osl⟩ := oe
        obtain ⟨h1, h2⟩ := hz
        dsimp only at h1 h2 hv
        subst h1 h2 hv
        exact ⟨hget, rfl, rfl, trivial⟩
      exact PySem.W.kia_one (PySem.W.handS_kitx_exc C.hg C.hk C.hs C.hd C.ha C.hn C.ht C.hm) I.kIn J e (fun z => nomatch z) fun tk => ⟨.bl b, H, I.kept (t' := tk) fun _ _ z => z, rfl, q⟩
end Tv

set_option Elab.async false
set_option linter.all false
set_option maxRecDepth 100000
/-! Soundness, the frame: readings, states, values. -/
namespace Tv
open PySem PySem.Spec PyProof.Rows L2

theorem PE.weak {X : Cx} {e : Expr} {t t' : TE} (h : PE X e t) (w : ∀ σ H Q, t' σ H Q → t σ H Q) : PE X e t' := ⟨fun p s σ H Q I q => h.run p s σ H Q I (w σ H Q q)⟩
theorem PT.weak {X : Cx} {e : Expr} {t t' : TT} (h : PT X e t) (w : ∀ σ H Q, t' σ H Q → t σ H Q) : PT X e t' := ⟨fun p s σ H Q I q => h.run p s σ H Q I (w σ H Q q)⟩
theorem PW.weak {X : Cx} {e : Expr} {t t' : TT} (h : PW X e t) (w : ∀ σ H Q, t' σ H Q → t σ H Q) : PW X e t' := ⟨fun wh p s σ H Q I q => h.run wh p s σ H Q I (w σ H Q q)⟩
theorem PA.weak {X : Cx} {es : List Expr} {t t' : TA} (h : PA X es t) (w : ∀ σ H Q, t' σ H Q → t σ H Q) : PA X es t' := ⟨fun pos p s σ H Q I q => h.run pos p s σ H Q I (w σ H Q q)⟩
theorem PS.weak {X : Cx} {st : Stmt} {t t' : TS} (h : PS X st t) (w : ∀ D σ H, t' D σ H → t D σ H) : PS X st t' := ⟨fun p s σ H D I q => h.run p s σ H D I (w D σ H q)⟩
theorem PSs.weak {X : Cx} {st : List Stmt} {t t' : TS} (h : PSs X st t) (w : ∀ D σ H, t' D σ H → t D σ H) : PSs X st t' := ⟨fun p s σ H D I q => h.run p s σ H D I (w D σ H q)⟩
theorem PI.weak {X : Cx} {tg it : Expr} {t t' : TI} (h : PI X tg it t) (w : ∀ σ H R, t' σ H R → t σ H R) : PI X tg it t' := ⟨fun p s σ H R I q => h.run p s σ H R I (w σ H R q)⟩
theorem PO.weak {X : Cx} {e : Option Expr} {t t' : TO} (h : PO X e t) (w : ∀ σ H Q, t' σ H Q → t σ H Q) : PO X e t' := ⟨fun p s σ H Q I q => h.run p s σ H Q I (w σ H Q q)⟩

structure Se where
  K : PySem.W.Frag
  XR : Nat → Addr → Hp → Prop
  ext : Addr → Prop
  M : List Nat
  T : List Fn
  cv : Nat → Value

abbrev Se.R (S : Se) (env : Env) (g : G) (σ : L2.St) (H : Hp) (γ : List Addr) (loc : Nat → Option Addr) : Prop := SR S.K S.XR S.ext S.M env g σ H γ loc
abbrev Lc := Nat → Option Addr

def Sat {α : Type} (m : Res α) (P : α → G → Prop) (E : Nat → G → Prop) : Prop := match m with
  | .ok a g => P a g
  | .err c g => E c g
  | .stuck => False
theorem Sat.bind {α β : Type} {m : Res α} {f : α → G → Res β} {P : β → G → Prop} {E : Nat → G → Prop} (h : Sat (m.bind f) P E) : Sat m (fun a g => Sat (f a g) P E) E := by
  cases m <;> exact h
theorem Sat.mono {α : Type} {m : Res α} {P P' : α → G → Prop} {E E' : Nat → G → Prop} (h : Sat m P E) (p : ∀ a g, P a g → P' a g) (e : ∀ c g, E c g → E' c g) : Sat m P' E' := by
  cases m with
  | ok a g => exact p a g h
  | err c g => exact e c g h
  | stuck => exact h
theorem Sat.okR {o : Option D} {g : G} {P : D → G → Prop} {E : Nat → G → Prop} (h : Sat (okR o g) P E) : ∃ d, o = some d ∧ P d g := by
  cases o with
  | none => exact h.elim
  | some d => exact ⟨d, rfl, h⟩
theorem Sat.okB {o : Option Bool} {g : G} {P : D → G → Prop} {E : Nat → G → Prop} (h : Sat (okB o g) P E) : ∃ b, o = some b ∧ P (.bl b) g := by
  cases o with
  | none => exact h.elim
  | some d => exact ⟨d, rfl, h⟩
theorem Sat.okO {α : Type} {o : Option α} {g : G} {P : α → G → Prop} {E : Nat → G → Prop} (h : Sat (okO o g) P E) : ∃ d, o = some d ∧ P d g := by
  cases o with
  | none => exact h.elim
  | some d => exact ⟨d, rfl, h⟩

/-- what is asked where an exception leaves -/
def Er (S : Se) (W : WX) (env : Env) (σ : L2.St) (H : Hp) (γ : List Addr) (loc : Lc) : Nat → G → Prop := fun c g' =>
  ∀ H' γ', S.R env g' σ H' γ' loc → StE γ loc H γ' H' → W (S.cv c) none σ H'
theorem Er.trans {S : Se} {W : WX} {env : Env} {g : G} {σ : L2.St} {H H1 : Hp} {γ γ1 : List Addr} {loc : Lc} (R : S.R env g σ H γ loc) (s : StE γ loc H γ1 H1) {c : Nat} {g' : G} (h : Er S W env σ H γ loc c g') : Er S W env σ H1 γ1 loc c g' :=
  fun H' γ' R' s' => h H' γ' R' (s.trans s' R.cellne)

section
variable {S : Se} {X : Cx} {env : Env} {g g' : G} {σ : L2.St} {H H' H1 H2 : Hp} {γ γ' γ1 γ2 : List Addr} {loc : Lc} {d : D} {v : V}

/-- a value at hand: borrowed from a local, or anything -/
def Val (S : Se) (env : Env) (loc : Lc) (γ : List Addr) (H : Hp) (d : D) (v : V) : Prop :=
  (∃ i a, i ∈ S.M ∧ loc i = some a ∧ v = .ref a ∧ gt env i = some d) ∨ Rp S.K S.XR (Fp γ loc S.ext) γ H d v
/-- new: a plain value, or a list that nobody else knows -/
def New (S : Se) (loc : Lc) (H : Hp) (γ' : List Addr) (H' : Hp) (d : D) (v : V) : Prop :=
  (scal d = true ∧ Rp S.K S.XR (Fp γ' loc S.ext) γ' H' d v) ∨
    ∃ p xs ds, H p = none ∧ H' p = some (.lst xs) ∧ v = .ref p ∧ d = .lst ds ∧ RpL S.K S.XR (fun a => Fp γ' loc S.ext a ∨ a = p) γ' H' ds xs ∧ ¬ Fp γ' loc S.ext p
theorem fp_sub {XR : Nat → Addr → Hp → Prop} {F F' : Addr → Prop} {γ : List Addr} {H : Hp} (h : ∀ a, F' a → F a) : Mono XR F γ H F' γ H :=
  ⟨fun a xs e f => ⟨e, fun z => f (h a z)⟩, fun _ _ _ e => e, List.prefix_refl _, fun _ _ e => e⟩
def Pst (S : Se) (f : Fl) (env : Env) (loc : Lc) (H : Hp) (γ' : List Addr) (H' : Hp) (d : D) (v : V) : Prop := match f with
  | .bor => ∃ i a, i ∈ S.M ∧ loc i = some a ∧ v = .ref a ∧ gt env i = some d
  | .any => Rp S.K S.XR (Fp γ' loc S.ext) γ' H' d v
  | .new => New S loc H γ' H' d v
theorem New.rp (h : New S loc H γ' H' d v) : Rp S.K S.XR (Fp γ' loc S.ext) γ' H' d v := by
  rcases h with ⟨_, h⟩ | ⟨p, xs, ds, _, h2, rfl, rfl, h5, h6⟩
  · exact h
  · unfold Rp
    exact ⟨p, xs, rfl, ⟨h2, h6⟩, h5.mono (fp_sub fun a z => .inl z)⟩
theorem Pst.val {f : Fl} (h : Pst S f env loc H γ' H' d v) : Val S env loc γ' H' d v := by
  cases f with
  | bor => exact .inl h
  | any => exact .inr h
  | new => exact .inr (New.rp h)
theorem Pst.rp {f : Fl} (h : Pst S f env loc H γ' H' d v) (hf : f.isB = false) : Rp S.K S.XR (Fp γ' loc S.ext) γ' H' d v := by
  cases f with
  | bor => cases hf
  | any => exact h
  | new => exact New.rp h
/-- what stays through a step of expressions -/
theorem StE.mono {S : Se} {loc' : Lc} (s : StE γ loc H γ' H') (R : S.R env g σ H γ loc) (hx : XRok S.XR) : Mono S.XR (Fp γ loc S.ext) γ H (Fp γ' loc S.ext) γ' H' where
  ls := fun a xs e f => by
    have ha : a ∉ γ := fun z => f (.inl z)
    refine ⟨s.keep a _ ha (fun i z => f (.inr (.inl ⟨i, z⟩))) e, fun z => f ?_⟩
    rcases z with z | z | z
    · rcases s.newg a z with q | q
      · exact .inl q
      · rw [e] at q; cases q
    · exact .inr (.inl z)
    · exact .inr (.inr z)
  nl := fun a o ho e => s.keep a _ (fun z => by obtain ⟨ys, q⟩ := R.cell z; rw [e] at q; cases q; exact ho _ rfl) (fun i z => by obtain ⟨ys, q⟩ := R.own z; rw [e] at q; cases q; exact ho _ rfl) e
  gm := s.grow
  xr := fun c a h => hx c a H h H' fun b hb o e => s.keep b o (fun z => by obtain ⟨ys, q⟩ := R.cell z; exact hb ys q) (fun i z => by obtain ⟨ys, q⟩ := R.own z; exact hb ys q) e
theorem Val.step (h : Val S env loc γ H d v) (s : StE γ loc H γ' H') (R : S.R env g σ H γ loc) (hx : XRok S.XR) : Val S env loc γ' H' d v := by
  rcases h with h | h
  · exact .inl h
  · exact .inr (h.mono (s.mono (loc' := loc) R hx))
theorem Val.op (h : Val S env loc γ H d v) (R : S.R env g σ H γ loc) : OpV S.K S.XR (Fp γ loc S.ext) γ H d v := by
  rcases h with ⟨i, a, hm, hl, rfl, hd⟩ | h
  · obtain ⟨a', xs, ds, rfl, e2, _, e4, r⟩ := R.slotM i d hm hd
    rw [hl] at e2; cases e2
    exact ⟨a, xs, rfl, e4, r⟩
  · exact .of h
theorem Val.opd (h : Val S env loc γ H d v) (R : S.R env g σ H γ loc) : OpV S.K S.XR (Fp γ loc S.ext) γ H (dr g d) v := by
  have q := h.op R
  cases d with
  | cell n =>
    have q0 := q
    unfold OpV Rp at q
    obtain ⟨a, rfl, e⟩ := q
    cases hg : g[n]? with
    | none => simp only [dr, hg]; exact q0
    | some cl =>
      cases cl with
      | ins c fs => simp only [dr, hg]; exact q0
      | lst xs =>
        simp only [dr, hg]
        obtain ⟨nl, ys, e2, r⟩ := R.cells n a _ e hg
        exact ⟨a, ys, rfl, e2, r.nol _ _ nl⟩
  | _ => exact q
theorem avoid {XR : Nat → Addr → Hp → Prop} {F F' : Addr → Prop} {γ γ' : List Addr} {H H' : Hp} {p : Addr} (m : Mono XR F γ H F' γ' H') (hp : H p = none) : Mono XR F γ H (fun a => F' a ∨ a = p) γ' H' :=
  ⟨fun a xs e f => ⟨(m.ls a xs e f).1, fun z => z.elim (m.ls a xs e f).2 fun q => (by subst q; rw [hp] at e; cases e)⟩, m.nl, m.gm, m.xr⟩
/-- an operation's end -/
theorem got_fin (R : S.R env g σ H γ loc) (hx : XRok S.XR) (h : Got S.K S.XR (Fp γ loc S.ext) γ H d v H') : S.R env g σ H' γ loc ∧ StE γ loc H γ H' ∧ New S loc H γ H' d v := by
  rcases h with ⟨h1, rfl, h3⟩ | ⟨p, xs, ds, hp, rfl, rfl, rfl, r⟩
  · exact ⟨R, .refl, .inl ⟨h1, h3⟩⟩
  · have n : Next γ H γ (upd H p (.lst xs)) := .alloc hp
    refine ⟨R.alloc hx hp, n.ste R, .inr ⟨p, xs, ds, hp, upd_same, rfl, rfl, r.mono (avoid (n.mono hx R) hp), ?_⟩⟩
    rintro (z | ⟨i, z⟩ | z)
    · exact R.cellne p z hp
    · obtain ⟨ys, e⟩ := R.own z
      rw [e] at hp; cases hp
    · exact R.ex p z hp
theorem New.back (h : New S loc H1 γ' H' d v) (s : StE γ loc H γ1 H1) : New S loc H γ' H' d v := by
  rcases h with h | ⟨p, xs, ds, h1, h2⟩
  · exact .inl h
  · refine .inr ⟨p, xs, ds, ?_, h2⟩
    cases e : H p with
    | none => rfl
    | some o => exact absurd h1 (s.live p (by rw [e]; simp))
end

theorem pst_int {S : Se} {env : Env} {loc : Lc} {H H' : Hp} {γ' : List Addr} {i : Int} : Pst S .any env loc H γ' H' (.int i) (.int i) := (Rp.int : Rp S.K S.XR (Fp γ' loc S.ext) γ' H' _ _)
theorem pst_bl {S : Se} {env : Env} {loc : Lc} {H H' : Hp} {γ' : List Addr} {i : Bool} : Pst S .any env loc H γ' H' (.bl i) (.bl i) := (Rp.bl : Rp S.K S.XR (Fp γ' loc S.ext) γ' H' _ _)
/-! ### the readings -/
section
variable (S : Se) (W : WX)
def tE (x : Ex) : TE := fun σ H Q => ∃ env g γ loc, S.R env g σ H γ loc ∧ Sat (evE S.T x env g)
  (fun d g' => ∀ v H' γ', S.R env g' σ H' γ' loc → StE γ loc H γ' H' → Pst S (fl x) env loc H γ' H' d v → Q v H') (Er S W env σ H γ loc)
def tT (x : Ex) : TT := fun σ H Q => ∃ env g γ loc, S.R env g σ H γ loc ∧ Sat (evE S.T x env g)
  (fun d g' => ∃ b, d = .bl b ∧ ∀ H' γ', S.R env g' σ H' γ' loc → StE γ loc H γ' H' → Q b H') (Er S W env σ H γ loc)
def tB' (f : Ex → Env → G → Res D) (x : Ex) : TT := fun σ H Q => ∃ env g γ loc, S.R env g σ H γ loc ∧ Sat (f x env g)
  (fun d g' => ∃ b, d = .bl b ∧ ∀ H' γ', S.R env g' σ H' γ' loc → StE γ loc H γ' H' → Q b H') (Er S W env σ H γ loc)
def ValL (env : Env) (loc : Lc) (γ : List Addr) (H : Hp) : List D → List V → Prop
  | [], vs => vs = []
  | d :: ds, vs => ∃ v r, vs = v :: r ∧ Val S env loc γ H d v ∧ ValL env loc γ H ds r
def tEs (x : Ex) : TA := fun σ H Q => ∃ env g γ loc, S.R env g σ H γ loc ∧ Sat (evEs S.T x env g)
  (fun ds g' => ∀ vs H' γ', S.R env g' σ H' γ' loc → StE γ loc H γ' H' → ValL S env loc γ' H' ds vs → (noBor x = true → RpL S.K S.XR (Fp γ' loc S.ext) γ' H' ds vs) → Q vs H') (Er S W env σ H γ loc)
def tOx (x : Ex) : TO := fun σ H Q => ∃ env g γ loc, S.R env g σ H γ loc ∧ Sat (evO S.T x env g)
  (fun o g' => ∀ H' γ', S.R env g' σ H' γ' loc → StE γ loc H γ' H' → Q o H') (Er S W env σ H γ loc)
def tC' (x : Ex) : TT := fun σ H Q => ∃ env g γ loc, S.R env g σ H γ loc ∧ Sat (evC S.T x env g)
  (fun b g' => ∀ H' γ', S.R env g' σ H' γ' loc → StE γ loc H γ' H' → Q b H') (Er S W env σ H γ loc)
end

/-! ### the context -/
/-- a def's promise, by its function -/
def spF (K : PySem.W.Frag) (XR : Nat → Addr → Hp → Prop) (cv : Nat → Value) (n : Nat) (F : Fn) : Sp := fun vs H Q E =>
  ∃ ext γ g ds, vs.length = n ∧ SR K XR ext [] [] g [] H γ (fun _ => none) ∧ RpL K XR (Fp γ (fun _ => none) ext) γ H ds vs ∧ Sat (F ds g)
    (fun d g' => ∀ v H' γ', SR K XR ext [] [] g' [] H' γ' (fun _ => none) → Next γ H γ' H' → Rp K XR (Fp γ' (fun _ => none) ext) γ' H' d v → Q v H')
    (fun c g' => ∀ H' γ', SR K XR ext [] [] g' [] H' γ' (fun _ => none) → Next γ H γ' H' → E (cv c) none H')
def stk : Fn := fun _ _ => .stuck
def CallOk (S : Se) (X : Cx) (k : Nat) (f : Str) (F : Fn) : Prop := ∃ fa fd ps, X.mg f = some (.ref fa) ∧ PySem.W.keepIn X.K (.ref fa) = true ∧ Binds X.K fd ps [] ∧
  FnOk X.prog X.w X.K X.mg X.base (L2.CX X.prog X.w) k fa fd ps (spF S.K S.XR S.cv ps.length F) ∧ ∀ ds g, ds.length ≠ ps.length → F ds g = .stuck
def LitV (d : D) (v : V) : Prop := scal d = true ∧ ∀ K XR F γ H, Rp K XR F γ H d v

/-- a method of the reader's class -/
def MethOk (S : Se) (X : Cx) (k : Nat) (m : Str) (F : Fn) : Prop := ∃ j C fa fd ps, j + 1 ≤ k ∧ S.cv 100 = .ref C ∧ Cls X.K C ∧ Meth X.K C m fa ∧ Binds X.K fd ps [] ∧ rdF.contains m = false ∧
  FnOk X.prog X.w X.K X.mg X.base (L2.CX X.prog X.w) j fa fd ps (spF S.K S.XR S.cv ps.length F) ∧ ∀ ds g, ds.length ≠ ps.length → F ds g = .stuck
/-- what a class's __init__ promises -/
def spRd (K : PySem.W.Frag) (XR : Nat → Addr → Hp → Prop) (cv : Nat → Value) (C : Addr) (F : Fn) : Sp := fun vs H Q E =>
  ∃ x dx H1 ext γ g ds us, vs = .ref x :: us ∧ us.length = 2 ∧ H1 x = none ∧ H1 dx = none ∧ dx ≠ x ∧ H = upd (upd H1 dx (.own x)) x (.ins C dx []) ∧ SR K XR ext [] [] g [] H1 γ (fun _ => none) ∧ RpL K XR (Fp γ (fun _ => none) ext) γ H1 ds us ∧ Sat (F ds g)
    (fun d g' => ∀ H' γ', SR K XR ext [] [] g' [] H' γ' (fun _ => none) → Next γ H1 γ' H' → Rp K XR (Fp γ' (fun _ => none) ext) γ' H' d (.ref x) → Q .non H')
    (fun c g' => ∀ H' γ', SR K XR ext [] [] g' [] H' γ' (fun _ => none) → Next γ H1 γ' H' → E (cv c) none H')
def MakeOk (S : Se) (X : Cx) (k : Nat) (x : Str) (F : Fn) : Prop := ∃ j C fi fd ps, j + 1 ≤ k ∧ X.mg x = some (.ref C) ∧ Mk X.K C fi ∧ Binds X.K fd ps [] ∧
  FnOk X.prog X.w X.K X.mg X.base (L2.CX X.prog X.w) j fi fd ps (spRd S.K S.XR S.cv C F)
/-- what is known of the classes of exceptions -/
structure TrOk (K : PySem.W.Frag) (XR : Nat → Addr → Hp → Prop) (cv : Nat → Value) (mg : Str → Option Value) : Prop where
  le : ∃ a, mg "ListError" = some (.ref a) ∧ ∀ k, k < 6 → PySem.W.exmOne K (cv k) (.ref a) = some true
  xr : ∀ c a H, c < 6 → (XR c a H ↔ H a = some (ExcH (cv c) a))
  isx : ∀ k, k < 6 → ∃ D, cv k = .ref D ∧ ExcC K D
  isc : ∀ (c : Nat) (n : Str), xcN[c]? = some n → ∃ Dc, mg n = some (.ref Dc) ∧ ∀ k, k < 6 → PySem.W.kitOne K (cv k) (.ref Dc) = some (exSub k c)
  isv : ∀ k, k < 6 → PySem.W.kitOne K (cv k) (.type "ValueError") = some true

structure XOk (S : Se) (X : Cx) (C : Ct) (k : Nat) (W : WX) : Prop where
  K : S.K = X.K
  N : X.N = C.N
  sc : X.env.scope = C.sc
  fn : X.fn = C.fn
  M : S.M = C.M
  calm : X.calm = true
  nd : C.N.Nodup
  free : ∀ x, x ∈ C.free → X.mg x = none
  cons : ∀ p, p ∈ C.cons → ∃ u v, X.mg p.1 = some u ∧ RelV v u ∧ LitV p.2 v
  room : Room k X.A
  xr : XRok S.XR
  call : ∀ n f, C.fns[n]? = some f → f ≠ ("" : Str) → CallOk S X k f (S.T.getD n stk)
  meth : ∀ n m, (n, m) ∈ C.ms → MethOk S X k m (S.T.getD n stk)
  make : ∀ n x, (n, x) ∈ C.rdm → MakeOk S X k x (S.T.getD n stk)
  rd : ∀ a H, S.XR 100 a H → ∃ C dx fs, S.cv 100 = .ref C ∧ H a = some (.ins C dx fs)
  fld : C.rd = true → ∃ A, S.cv 100 = .ref A ∧ Cls X.K A ∧ ∀ f, f ∈ rdF → NoAttr X.K A f
  tr : C.tr = true → TrOk X.K S.XR S.cv X.mg
  tk : Takes X W
end Tv

set_option Elab.async false
set_option linter.all false
set_option maxRecDepth 100000
/-! Soundness of expressions, construct by construct. -/
namespace Tv
open PySem PySem.Spec PyProof.Rows L2

/-- no star, no set display, no slice -/
def nice : Expr → Bool
  | .Starred .. => false
  | .Set .. => false
  | .Slice .. => false
  | _ => true
theorem star_eq {e : Expr} (h : nice e = true) (es : List Expr) (env : PySem.Env) : starEach (e :: es) env = (false, eval e env) :: starEach es env := by
  cases e <;> first | rfl | cases h
theorem mark_eq {e : Expr} (h : nice e = true) (op : CmpOp) : behindInMarks op e = false := by
  cases e <;> first | rfl | cases h
theorem fold_eq {e : Expr} (h : nice e = true) (env : PySem.Env) : ∀ x, foldedSetIterable e env x = pure x := by
  intro x
  cases e <;> first | rfl | cases h
theorem plain_ix {e : Expr} (h : nice e = true) : PlainIx e := by
  intro o i
  cases e <;> first | rfl | cases h
theorem bad_d {e : Expr} (h : nice e = false) : dName e = none ∧ dCst e = none ∧ dBin e = none ∧ dUn e = none ∧ dBool e = none ∧ dCmp e = none ∧ dIf e = none ∧ dList e = none ∧ dTup e = none ∧ dSub e = none ∧ dCall e = none ∧ dMeth e = none ∧ dComp e = none := by
  cases e <;> first | cases h; done | exact ⟨rfl, rfl, rfl, rfl, rfl, rfl, rfl, rfl, rfl, rfl, rfl, rfl, rfl⟩
theorem bad_a {e : Expr} (h : nice e = false) : dAttr e = none := by
  cases e <;> first | rfl | cases h
theorem nice_of {C : Ct} {x : Ex} {e : Expr} (h : mtE C x e = true) : nice e = true := by
  cases hn : nice e with
  | true => rfl
  | false =>
    obtain ⟨h1, h2, h3, h4, h5, h6, h7, h8, h9, h10, h11, h12, h13⟩ := bad_d hn
    have h14 := bad_a hn
    cases x with
    | b1 o a => cases o <;> simp [mtE, h11] at h
    | _ => simp [mtE, h1, h2, h3, h4, h5, h6, h7, h8, h9, h10, h11, h12, h13, h14] at h
theorem stars_all {C : Ct} {x : Ex} {es : List Expr} (env : PySem.Env) (pos : Pos) (h : mtEs C x es = true) : (backTo pos (starEach es env)).any (·.1) = false := by
  induction x generalizing es with
  | nil => cases es with
    | nil => rfl
    | cons e es => simp [mtEs] at h
  | cons a r _ ih => cases es with
    | nil => rfl
    | cons e es =>
      have h' : mtE C a e = true ∧ mtEs C r es = true := by simpa [mtEs] using h
      rw [star_eq (nice_of h'.1)]
      show (false || (backTo pos (starEach es env)).any (·.1)) = false
      rw [ih h'.2] <;> rfl
  | _ => cases es with
    | nil => rfl
    | cons e es => simp [mtEs] at h

section
variable {S : Se} {X : Cx} {C : Ct} {k : Nat} {W : WX} {e : Expr}

theorem isVar_ok {i : Nat} {x : Str} (O : XOk S X C k W) (h : C.isVar i x = true) : X.N[i]? = some x ∧ Vis X.env.scope x ∧ (x == ("__debug__" : Str)) = false ∧ (x == ("__classdict__" : Str)) = false := by
  unfold Ct.isVar at h
  simp only [Bool.and_eq_true, decide_eq_true_eq, Bool.not_eq_true'] at h
  obtain ⟨⟨⟨h1, h2⟩, h3⟩, h4⟩ := h
  refine ⟨by rw [O.N]; exact h1, ?_, h3, h4⟩
  unfold Vis
  rw [O.sc]
  split at h2
  · rename_i q; exact .inl q
  · rename_i q; exact .inr (.inl q)
  · rename_i q; exact .inr (.inr q)
  · cases h2
theorem isGl_ok {x : Str} (O : XOk S X C k W) (h : C.isGl x = true) : Gl X x ∧ (x == ("__debug__" : Str)) = false ∧ x ≠ "__name__" := by
  unfold Ct.isGl at h
  simp only [Bool.and_eq_true, Bool.not_eq_true'] at h
  obtain ⟨⟨h1, h2⟩, h3⟩ := h
  refine ⟨?_, h2, by simpa using h3⟩
  unfold Gl PySem.Env.kindOf
  rw [O.sc]
  split at h1
  · assumption
  · cases h1
theorem isB_ok {x y : Str} (O : XOk S X C k W) (h : C.isB x y = true) : x = y ∧ Gl X x ∧ X.mg x = none ∧ (x == ("__debug__" : Str)) = false ∧ x ≠ "__name__" := by
  unfold Ct.isB at h
  simp only [Bool.and_eq_true] at h
  obtain ⟨⟨h1, h2⟩, h3⟩ := h
  obtain ⟨g1, g2, g3⟩ := isGl_ok O h2
  exact ⟨by simpa using h1, g1, O.free x (by simpa using h3), g2, g3⟩

theorem s_var {i : Nat} (O : XOk S X C k W) (h : mtE C (.var i) e = true) : PE X e (tE S W (.var i)) := by
  simp only [mtE] at h
  split at h
  · rename_i x hx
    obtain ⟨p, rfl⟩ := dName_eq hx
    simp only [Bool.and_eq_true, Bool.not_eq_true'] at h
    obtain ⟨n1, n2, n3, n4⟩ := isVar_ok O h.1
    have hm : i ∉ S.M := by rw [O.M]; simpa using h.2
    refine PE.weak (pe_var n1 n2 n3 n4) fun σ H Q ⟨env, g, γ, loc, R, q⟩ => ?_
    simp only [evE] at q
    obtain ⟨d, hd, q⟩ := q.okR
    obtain ⟨v, e1, r⟩ := R.slotN i d hm hd
    exact ⟨v, e1, q v H γ R .refl r⟩
  · cases h
theorem s_bvar {i : Nat} (O : XOk S X C k W) (h : mtE C (.bvar i) e = true) : PE X e (tE S W (.bvar i)) := by
  simp only [mtE] at h
  split at h
  · rename_i x hx
    obtain ⟨p, rfl⟩ := dName_eq hx
    simp only [Bool.and_eq_true] at h
    obtain ⟨n1, n2, n3, n4⟩ := isVar_ok O h.1
    have hm : i ∈ S.M := by rw [O.M]; simpa using h.2
    refine PE.weak (pe_var n1 n2 n3 n4) fun σ H Q ⟨env, g, γ, loc, R, q⟩ => ?_
    simp only [evE] at q
    obtain ⟨d, hd, q⟩ := q.okR
    obtain ⟨a, xs, ds, ed, e1, e2, e3, r⟩ := R.slotM i d hm hd
    exact ⟨_, e2, q _ H γ R .refl ⟨i, a, hm, e1, rfl, hd⟩⟩
  · cases h
theorem dCst_lit {e : Expr} {c d : D} (h : dCst e = some c) (l : litIs d c = true) : ∃ v, PE X e (tC v) ∧ LitV d v := by
  unfold dCst at h
  split at h
  · cases h; cases d <;> simp [litIs] at l
    exact ⟨.non, pe_non, rfl, fun _ _ _ _ _ => .non⟩
  · cases h; cases d <;> simp [litIs] at l
    subst l; exact ⟨_, pe_bl, rfl, fun _ _ _ _ _ => .bl⟩
  · cases h; cases d <;> simp [litIs] at l
    subst l; exact ⟨_, pe_int, rfl, fun _ _ _ _ _ => .int⟩
  · cases h; cases d <;> simp [litIs] at l
    subst l; exact ⟨_, pe_str, rfl, fun _ _ _ _ _ => .str⟩
  · cases h
theorem s_lit {d : D} (h : mtE C (.lit d) e = true) : PE X e (tE S W (.lit d)) := by
  simp only [mtE] at h
  split at h
  · rename_i c hc
    obtain ⟨v, p, l⟩ := dCst_lit (X := X) hc h
    refine PE.weak p fun σ H Q ⟨env, g, γ, loc, R, q⟩ => ?_
    exact q v H γ R .refl (l.2 _ _ _ _ _)
  · cases h
theorem s_gcon {x : Str} {d : D} (O : XOk S X C k W) (h : mtE C (.gcon x d) e = true) : PE X e (tE S W (.gcon x d)) := by
  simp only [mtE] at h
  split at h
  · rename_i y hy
    obtain ⟨p, rfl⟩ := dName_eq hy
    simp only [Bool.and_eq_true, List.any_eq_true] at h
    obtain ⟨⟨h1, h2⟩, ⟨⟨z, c⟩, hz, h3, h4⟩⟩ := h
    have e1 : x = y := by simpa using h1
    have e2 : z = x := by simpa using h3
    subst e1 e2
    obtain ⟨g1, g2, g3⟩ := isGl_ok O h2
    obtain ⟨u, v, m1, m2, m3⟩ := O.cons _ hz
    have ed : c = d := by
      simp only at h4
      cases c <;> cases d <;> simp [litIs] at h4 <;> simp [h4]
    subst ed
    refine PE.weak (pe_glob g1 m1 m2 g2) fun σ H Q ⟨env, g, γ, loc, R, q⟩ => ?_
    exact q v H γ R .refl (m3.2 _ _ _ _ _)
  · cases h
/-- two operands in a row -/
theorem seq2 {α : Type} {a b : Ex} {env : Env} {g : G} {σ : L2.St} {H : Hp} {γ : List Addr} {loc : Lc} {f : D → D → G → Res α} {P : α → G → Prop} {Rr : V → V → Hp → Prop} (O : XOk S X C k W) (R : S.R env g σ H γ loc)
    (h : Sat ((evE S.T a env g).bind fun x g => (evE S.T b env g).bind fun y g => f x y g) P (Er S W env σ H γ loc))
    (fin : ∀ d1 d2 g2 v1 v2 H2 γ2, S.R env g2 σ H2 γ2 loc → StE γ loc H γ2 H2 → Val S env loc γ2 H2 d1 v1 → Val S env loc γ2 H2 d2 v2 → Sat (f d1 d2 g2) P (Er S W env σ H2 γ2 loc) → Rr v1 v2 H2) :
    tE S W a σ H fun x H1 => tE S W b σ H1 fun y H2 => Rr x y H2 := by
  refine ⟨env, g, γ, loc, R, h.bind.mono (fun d1 g1 h1 v1 H1 γ1 R1 s1 p1 => ⟨env, g1, γ1, loc, R1, h1.bind.mono (fun d2 g2 h2 v2 H2 γ2 R2 s2 p2 => ?_) fun c g' => Er.trans R s1⟩) fun c g' x => x⟩
  have s12 := s1.trans s2 R.cellne
  exact fin d1 d2 g2 v1 v2 H2 γ2 R2 s12 (p1.val.step s2 R1 O.xr) p2.val (h2.mono (fun _ _ x => x) fun c g' => Er.trans R s12)
/-- one operand -/
theorem seq1 {α : Type} {a : Ex} {env : Env} {g : G} {σ : L2.St} {H : Hp} {γ : List Addr} {loc : Lc} {f : D → G → Res α} {P : α → G → Prop} {Rr : V → Hp → Prop} (R : S.R env g σ H γ loc)
    (h : Sat ((evE S.T a env g).bind fun x g => f x g) P (Er S W env σ H γ loc))
    (fin : ∀ d1 g2 v1 H2 γ2, S.R env g2 σ H2 γ2 loc → StE γ loc H γ2 H2 → Val S env loc γ2 H2 d1 v1 → Sat (f d1 g2) P (Er S W env σ H2 γ2 loc) → Rr v1 H2) :
    tE S W a σ H Rr := by
  refine ⟨env, g, γ, loc, R, h.bind.mono (fun d1 g1 h1 v1 H1 γ1 R1 s1 p1 => ?_) fun c g' x => x⟩
  exact fin d1 g1 v1 H1 γ1 R1 s1 p1.val (h1.mono (fun _ _ x => x) fun c g' => Er.trans R s1)
theorem s_bin {o : Bop} {a b : Ex} (O : XOk S X C k W) (ha : ∀ e, mtE C a e = true → PE X e (tE S W a)) (hb : ∀ e, mtE C b e = true → PE X e (tE S W b)) (h : mtE C (.bin o a b) e = true) : PE X e (tE S W (.bin o a b)) := by
  simp only [mtE] at h
  split at h
  · rename_i l op r hx
    obtain ⟨p, rfl⟩ := dBin_eq hx
    simp only [Bool.and_eq_true] at h
    obtain ⟨⟨h1, h2⟩, h3⟩ := h
    have := bopIs_eq h1; subst this
    refine PE.weak (pe_op (bin_ok o) (ha _ h2) (hb _ h3)) fun σ H Q ⟨env, g, γ, loc, R, q⟩ => ?_
    simp only [evE] at q
    refine seq2 (f := fun x y g => okR (binD o (dr g x) (dr g y)) g) O R q fun d1 d2 g2 v1 v2 H2 γ2 R2 s2 p1 p2 q2 => ?_
    obtain ⟨d, e1, q3⟩ := q2.okR
    have o1 := p1.opd R2
    have o2 := p2.opd R2
    rw [O.K] at o1 o2
    refine ⟨S.XR, _, γ2, _, _, d, o1, o2, e1, fun v H' got => ?_⟩
    rw [← O.K] at got
    obtain ⟨R3, s3, nw⟩ := got_fin R2 O.xr got
    exact q3 v H' γ2 R3 (s2.trans s3 R.cellne) (nw.back s2)
  · cases h
theorem s_neg {a : Ex} (O : XOk S X C k W) (ha : ∀ e, mtE C a e = true → PE X e (tE S W a)) (h : mtE C (.neg a) e = true) : PE X e (tE S W (.neg a)) := by
  simp only [mtE] at h
  split at h
  · rename_i x hx
    obtain ⟨p, rfl⟩ := dUn_eq hx
    refine PE.weak (pe_un un_neg (ha _ h)) fun σ H Q ⟨env, g, γ, loc, R, q⟩ => ?_
    simp only [evE] at q
    refine seq1 R q fun d1 g2 v1 H2 γ2 R2 s2 p1 q2 => ?_
    cases d1 with
    | int i =>
      have := (p1.op R2).int; subst this
      exact ⟨_, rfl, q2 _ H2 γ2 R2 s2 pst_int⟩
    | _ => exact q2.elim
  · cases h
theorem s_not {a : Ex} (O : XOk S X C k W) (ha : ∀ e, mtE C a e = true → PE X e (tE S W a)) (ht : ∀ e, mtE C a e = true → isIte a = false → PT X e (tT S W a)) (h : mtE C (.not a) e = true) : PE X e (tE S W (.not a)) ∧ PT X e (tT S W (.not a)) := by
  simp only [mtE] at h
  split at h
  · rename_i x hx
    obtain ⟨p, rfl⟩ := dUn_eq hx
    simp only [Bool.and_eq_true, Bool.not_eq_true'] at h
    refine ⟨PE.weak (pe_not (ha _ h.1)) fun σ H Q ⟨env, g, γ, loc, R, q⟩ => ?_, PT.weak (pt_not (ht _ h.1 h.2)) fun σ H Q ⟨env, g, γ, loc, R, q⟩ => ?_⟩
    · simp only [evE] at q
      refine seq1 R q fun d1 g2 v1 H2 γ2 R2 s2 p1 q2 => ?_
      cases d1 with
      | bl i =>
        have := (p1.op R2).bl; subst this
        exact ⟨_, rfl, q2 _ H2 γ2 R2 s2 pst_bl⟩
      | _ => exact q2.elim
    · simp only [evE] at q
      refine ⟨env, g, γ, loc, R, q.bind.mono (fun d g1 q1 => ?_) fun _ _ x => x⟩
      cases d with
      | bl b =>
        obtain ⟨c, ec, q2⟩ := q1
        cases ec
        exact ⟨b, rfl, q2⟩
      | _ => exact q1.elim
  · cases h
theorem s_cmp {o : Cop} {a b : Ex} (O : XOk S X C k W) (ha : ∀ e, mtE C a e = true → PE X e (tE S W a)) (hb : ∀ e, mtE C b e = true → PE X e (tE S W b)) (h : mtE C (.cmp o a b) e = true) : PE X e (tE S W (.cmp o a b)) ∧ PT X e (tT S W (.cmp o a b)) := by
  simp only [mtE] at h
  split at h
  · rename_i l op r hx
    obtain ⟨p, rfl⟩ := dCmp_eq hx
    simp only [Bool.and_eq_true] at h
    obtain ⟨⟨h1, h2⟩, h3⟩ := h
    have := copIs_eq h1; subst this
    have hu : X.A.units + 65 < cLine := by have := O.room.un; omega
    have key : ∀ {σ : L2.St} {H : Hp} {env : Env} {g : G} {γ : List Addr} {loc : Lc} {P : D → G → Prop} {Q : V → Hp → Prop}, S.R env g σ H γ loc → Sat (evE S.T (.cmp o a b) env g) P (Er S W env σ H γ loc) →
        (∀ c g2 H2 γ2, S.R env g2 σ H2 γ2 loc → StE γ loc H γ2 H2 → P (.bl c) g2 → Q (.bl c) H2) → tOp (rCmp (X := X) o) (tE S W a) (tE S W b) σ H Q := by
      intro σ H env g γ loc P Q R q fin
      simp only [evE] at q
      refine seq2 (f := fun x y g => okB (cmpD o x y) g) O R q fun d1 d2 g2 v1 v2 H2 γ2 R2 s2 p1 p2 q2 => ?_
      obtain ⟨c, e1, q3⟩ := q2.okB
      have o1 := p1.op R2
      have o2 := p2.op R2
      rw [O.K] at o1 o2
      exact ⟨S.XR, _, γ2, _, _, c, o1, o2, e1, fin c g2 H2 γ2 R2 s2 q3⟩
    refine ⟨PE.weak (pe_cmpR (cmp_ok o hu) (ha _ h2) (hb _ h3) (mark_eq (nice_of h3) _)) fun σ H Q ⟨env, g, γ, loc, R, q⟩ => ?_, PT.weak (pt_cmpR (cmp_ok o hu) (ha _ h2) (hb _ h3) (mark_eq (nice_of h3) _)) fun σ H Q ⟨env, g, γ, loc, R, q⟩ => ?_⟩
    · exact key R q fun c g2 H2 γ2 R2 s2 q3 => q3 _ H2 γ2 R2 s2 pst_bl
    · exact key (Q := fun x H' => ∃ k, x = .bl k ∧ Q k H') R q fun c g2 H2 γ2 R2 s2 ⟨b, eb, q3⟩ => ⟨c, rfl, by cases eb; exact q3 H2 γ2 R2 s2⟩
  · cases h
theorem s_cmpc {o : Cop} {a b : Ex} (O : XOk S X C k W) (ha : ∀ e, mtE C a e = true → PE X e (tE S W a)) (hb : ∀ e, mtE C b e = true → PE X e (tE S W b)) (h : mtE C (.cmpc o a b) e = true) : PE X e (tE S W (.cmpc o a b)) ∧ PT X e (tT S W (.cmpc o a b)) := by
  simp only [mtE] at h
  split at h
  · rename_i l op r hx
    obtain ⟨p, rfl⟩ := dCmp_eq hx
    simp only [Bool.and_eq_true] at h
    obtain ⟨⟨h1, h2⟩, h3⟩ := h
    have := copIs_eq h1; subst this
    have hu : X.A.units + 65 < cLine := by have := O.room.un; omega
    have key : ∀ {σ : L2.St} {H : Hp} {env : Env} {g : G} {γ : List Addr} {loc : Lc} {P : D → G → Prop} {Q : V → Hp → Prop}, S.R env g σ H γ loc → Sat (evE S.T (.cmpc o a b) env g) P (Er S W env σ H γ loc) →
        (∀ c g2 H2 γ2, S.R env g2 σ H2 γ2 loc → StE γ loc H γ2 H2 → P (.bl c) g2 → Q (.bl c) H2) → tOp (rCmp (X := X) o) (tE S W a) (tE S W b) σ H Q := by
      intro σ H env g γ loc P Q R q fin
      simp only [evE] at q
      refine seq2 (f := fun x y g => okB (cmpD o (dr g x) (dr g y)) g) O R q fun d1 d2 g2 v1 v2 H2 γ2 R2 s2 p1 p2 q2 => ?_
      obtain ⟨c, e1, q3⟩ := q2.okB
      have o1 := p1.opd R2
      have o2 := p2.opd R2
      rw [O.K] at o1 o2
      exact ⟨S.XR, _, γ2, _, _, c, o1, o2, e1, fin c g2 H2 γ2 R2 s2 q3⟩
    refine ⟨PE.weak (pe_cmpR (cmp_ok o hu) (ha _ h2) (hb _ h3) (mark_eq (nice_of h3) _)) fun σ H Q ⟨env, g, γ, loc, R, q⟩ => ?_, PT.weak (pt_cmpR (cmp_ok o hu) (ha _ h2) (hb _ h3) (mark_eq (nice_of h3) _)) fun σ H Q ⟨env, g, γ, loc, R, q⟩ => ?_⟩
    · exact key R q fun c g2 H2 γ2 R2 s2 q3 => q3 _ H2 γ2 R2 s2 pst_bl
    · exact key (Q := fun x H' => ∃ k, x = .bl k ∧ Q k H') R q fun c g2 H2 γ2 R2 s2 ⟨b, eb, q3⟩ => ⟨c, rfl, by cases eb; exact q3 H2 γ2 R2 s2⟩
  · cases h
theorem s_chain {o o2 : Cop} {a b c : Ex} (O : XOk S X C k W) (ha : ∀ e, mtE C a e = true → PE X e (tE S W a)) (hb : ∀ e, mtE C b e = true → PE X e (tE S W b)) (hc : ∀ e, mtE C c e = true → PE X e (tE S W c))
    (h : mtE C (.chain o o2 a b c) e = true) : PE X e (tE S W (.chain o o2 a b c)) ∧ PT X e (tT S W (.chain o o2 a b c)) := by
  simp only [mtE] at h
  split at h
  · rename_i x op oq y z hx
    obtain ⟨p, rfl⟩ := dCmp_eq hx
    simp only [Bool.and_eq_true] at h
    obtain ⟨⟨⟨⟨h1, h1'⟩, h2⟩, h3⟩, h4⟩ := h
    have := copIs_eq h1; subst this
    have := copIs_eq h1'; subst this
    have hu : X.A.units + 65 < cLine := by have := O.room.un; omega
    have key : ∀ {σ : L2.St} {H : Hp} {env : Env} {g : G} {γ : List Addr} {loc : Lc} {P : D → G → Prop} {Q : V → Hp → Prop}, S.R env g σ H γ loc → Sat (evE S.T (.chain o o2 a b c) env g) P (Er S W env σ H γ loc) →
        (∀ c g2 H2 γ2, S.R env g2 σ H2 γ2 loc → StE γ loc H γ2 H2 → P (.bl c) g2 → Q (.bl c) H2) → tChain (rCmp (X := X) o) (rCmp (X := X) o2) (tE S W a) (tE S W b) (tE S W c) σ H Q := by
      intro σ H env g γ loc P Q R q fin
      simp only [evE] at q
      refine seq2 (f := fun x y g => match cmpD o x y with
        | some true => (evE S.T c env g).bind fun z g => okB (cmpD o2 y z) g
        | some false => .ok (.bl false) g
        | none => .stuck) O R q fun d1 d2 g2 v1 v2 H2 γ2 R2 s2 p1 p2 q2 => ?_
      have w1 := p1.op R2
      have w2 := p2.op R2
      rw [O.K] at w1 w2
      cases e1 : cmpD o d1 d2 with
      | none => simp only [e1] at q2; exact q2.elim
      | some t =>
        refine ⟨S.XR, _, γ2, _, _, t, w1, w2, e1, t, rfl, ?_⟩
        cases t with
        | false => simp only [e1] at q2; exact fin false g2 H2 γ2 R2 s2 q2
        | true =>
          simp only [e1] at q2
          refine seq1 (f := fun z g => okB (cmpD o2 d2 z) g) R2 q2 fun d3 g3 v3 H3 γ3 R3 s3 p3 q3 => ?_
          obtain ⟨u, e2, q4⟩ := q3.okB
          have w3 := p3.op R3
          have w4 := (p2.step s3 R2 O.xr).op R3
          rw [O.K] at w3 w4
          exact ⟨S.XR, _, γ3, _, _, u, w4, w3, e2, fin u g3 H3 γ3 R3 (s2.trans s3 R.cellne) q4⟩
    have hm : lastMarks [pyCop o, pyCop o2] [y, z] = false := mark_eq (nice_of h4) _
    refine ⟨PE.weak (pe_chain (cmp_ok o hu) (cmp_ok o2 hu) (ha _ h2) (hb _ h3) (hc _ h4) hm) fun σ H Q ⟨env, g, γ, loc, R, q⟩ => ?_, PT.weak (pt_chain (cmp_ok o hu) (cmp_ok o2 hu) (ha _ h2) (hb _ h3) (hc _ h4) hm) fun σ H Q ⟨env, g, γ, loc, R, q⟩ => ?_⟩
    · exact key R q fun c g2 H2 γ2 R2 s2 q3 => q3 _ H2 γ2 R2 s2 pst_bl
    · exact key (Q := fun x H' => ∃ k, x = .bl k ∧ Q k H') R q fun c g2 H2 γ2 R2 s2 ⟨b, eb, q3⟩ => ⟨c, rfl, by cases eb; exact q3 H2 γ2 R2 s2⟩
  · cases h
/-- a op1 b op2 c op3 d -/
def tChain3 (r r' r2 : R2) (ta tb tc td : TE) : TE := fun σ H Q => ta σ H fun x H1 => tb σ H1 fun y H2 => r x y H2 fun z H3 => ∃ k, z = .bl k ∧
  (if k = true then tc σ H3 fun w H4 => r' y w H4 fun z2 H5 => ∃ k2, z2 = .bl k2 ∧ (if k2 = true then td σ H5 fun u H6 => r2 w u H6 Q else Q (.bl false) H5) else Q (.bl false) H3)
theorem pe_chain3 {X : Cx} {a b c d : Expr} {pos : Pos} {ta tb tc td : TE} {op op' op2 : CmpOp} {r r' r2 : R2} (ho : OpR X (compareOp op) r) (ho' : OpR X (compareOp op') r') (ho2 : OpR X (compareOp op2) r2) (ha : PE X a ta) (hb : PE X b tb) (hc : PE X c tc) (hd : PE X d td)
    (hm : lastMarks [op, op', op2] [b, c, d] = false) : PE X (.Compare a [op, op', op2] [b, c, d] pos) (tChain3 r r' r2 ta tb tc td) := by
  refine ⟨fun pins s σ H Q I h => ?_⟩
  refine Compare_chain (thn (ha.run pins s σ H _ I h) fun v s1 ⟨x, H1, I1, r1, q1⟩ => chain_link (thn (hb.run pins s1 σ H1 _ I1 q1) fun u s2 ⟨y, H2, I2, r2', q2⟩ =>
    thn (ho pins s2 σ H2 x y v u _ I2 r1 r2' q2) fun d s3 ⟨z, H3, I3, r3, k, e, q3⟩ => ?_)) hm
  subst e
  cases r3
  refine wpAny_truthy_bool ?_
  cases k with
  | false => exact ite_ff ⟨.bl false, H3, I3, rfl, q3⟩
  | true =>
    refine ite_tt (chain_link (thn (hc.run pins s3 σ H3 _ I3 q3) fun w' s4 ⟨z', H4, I4, r4, q4⟩ => thn (ho' pins s4 σ H4 y z' u w' _ I4 r2' r4 q4) fun d2 s5 ⟨z2, H5, I5, r5, k2, e2, q5⟩ => ?_))
    subst e2
    cases r5
    refine wpAny_truthy_bool ?_
    cases k2 with
    | false => exact ite_ff ⟨.bl false, H5, I5, rfl, q5⟩
    | true => exact ite_tt (chain_last (thn (hd.run pins s5 σ H5 _ I5 q5) fun w2 s6 ⟨z3, H6, I6, r6, q6⟩ => ho2 pins s6 σ H6 z' z3 w' w2 Q I6 r4 r6 q6))
theorem pt_chain3 {X : Cx} {a b c d : Expr} {pos : Pos} {ta tb tc td : TE} {op op' op2 : CmpOp} {r r' r2 : R2} (ho : OpR X (compareOp op) r) (ho' : OpR X (compareOp op') r') (ho2 : OpR X (compareOp op2) r2) (ha : PE X a ta) (hb : PE X b tb) (hc : PE X c tc) (hd : PE X d td)
    (hm : lastMarks [op, op', op2] [b, c, d] = false) : PT X (.Compare a [op, op', op2] [b, c, d] pos) (tTest (tChain3 r r' r2 ta tb tc td)) := by
  refine ⟨fun pins s σ H Q I h => ?_⟩
  refine isTrue_chain (thn (ha.run pins s σ H _ I h) fun v s1 ⟨x, H1, I1, r1, q1⟩ => test_link (thn (hb.run pins s1 σ H1 _ I1 q1) fun u s2 ⟨y, H2, I2, r2', q2⟩ =>
    thn (ho pins s2 σ H2 x y v u _ I2 r1 r2' q2) fun d s3 ⟨z, H3, I3, r3, k, e, q3⟩ => ?_)) hm
  subst e
  cases r3
  refine wpAny_truthy_bool ?_
  cases k with
  | false =>
    obtain ⟨k', e', q'⟩ := q3
    cases e'
    exact ite_ff ⟨H3, I3, q'⟩
  | true =>
    refine ite_tt (test_link (thn (hc.run pins s3 σ H3 _ I3 q3) fun w' s4 ⟨z', H4, I4, r4, q4⟩ => thn (ho' pins s4 σ H4 y z' u w' _ I4 r2' r4 q4) fun d2 s5 ⟨z2, H5, I5, r5, k2, e2, q5⟩ => ?_))
    subst e2
    cases r5
    refine wpAny_truthy_bool ?_
    cases k2 with
    | false =>
      obtain ⟨k', e', q'⟩ := q5
      cases e'
      exact ite_ff ⟨H5, I5, q'⟩
    | true =>
      refine ite_tt (test_last (thn (hd.run pins s5 σ H5 _ I5 q5) fun w2 s6 ⟨z3, H6, I6, r6, q6⟩ => thn (ho2 pins s6 σ H6 z' z3 w' w2 _ I6 r4 r6 q6) fun d3 s7 ⟨z4, H7, I7, r7, k3, e3, q7⟩ => ?_))
      subst e3
      cases r7
      exact wpAny_truthy_bool ⟨H7, I7, q7⟩
theorem s_chain3 {o o2 o3 : Cop} {a b c d : Ex} (O : XOk S X C k W) (ha : ∀ e, mtE C a e = true → PE X e (tE S W a)) (hb : ∀ e, mtE C b e = true → PE X e (tE S W b)) (hc : ∀ e, mtE C c e = true → PE X e (tE S W c)) (hd : ∀ e, mtE C d e = true → PE X e (tE S W d))
    (h : mtE C (.chain3 o o2 o3 a b c d) e = true) : PE X e (tE S W (.chain3 o o2 o3 a b c d)) ∧ PT X e (tT S W (.chain3 o o2 o3 a b c d)) := by
  simp only [mtE] at h
  split at h
  · rename_i x op oq or y z w hx
    obtain ⟨p, rfl⟩ := dCmp_eq hx
    simp only [Bool.and_eq_true] at h
    obtain ⟨⟨⟨⟨⟨⟨h1, h1'⟩, h1a⟩, h2⟩, h3⟩, h4⟩, h5⟩ := h
    have := copIs_eq h1; subst this
    have := copIs_eq h1'; subst this
    have := copIs_eq h1a; subst this
    have hu : X.A.units + 65 < cLine := by have := O.room.un; omega
    have key : ∀ {σ : L2.St} {H : Hp} {env : Env} {g : G} {γ : List Addr} {loc : Lc} {P : D → G → Prop} {Q : V → Hp → Prop}, S.R env g σ H γ loc → Sat (evE S.T (.chain3 o o2 o3 a b c d) env g) P (Er S W env σ H γ loc) →
        (∀ c g2 H2 γ2, S.R env g2 σ H2 γ2 loc → StE γ loc H γ2 H2 → P (.bl c) g2 → Q (.bl c) H2) → tChain3 (rCmp (X := X) o) (rCmp (X := X) o2) (rCmp (X := X) o3) (tE S W a) (tE S W b) (tE S W c) (tE S W d) σ H Q := by
      intro σ H env g γ loc P Q R q fin
      simp only [evE] at q
      refine seq2 (f := fun x y g => match cmpD o x y with
        | some true => (evE S.T c env g).bind fun z g => match cmpD o2 y z with
          | some true => (evE S.T d env g).bind fun w g => okB (cmpD o3 z w) g
          | some false => .ok (.bl false) g
          | none => .stuck
        | some false => .ok (.bl false) g
        | none => .stuck) O R q fun d1 d2 g2 v1 v2 H2 γ2 R2 s2 p1 p2 q2 => ?_
      have w1 := p1.op R2
      have w2 := p2.op R2
      rw [O.K] at w1 w2
      cases e1 : cmpD o d1 d2 with
      | none => simp only [e1] at q2; exact q2.elim
      | some t =>
        refine ⟨S.XR, _, γ2, _, _, t, w1, w2, e1, t, rfl, ?_⟩
        cases t with
        | false => simp only [e1] at q2; exact fin false g2 H2 γ2 R2 s2 q2
        | true =>
          simp only [e1] at q2
          refine seq1 (f := fun z g => match cmpD o2 d2 z with
            | some true => (evE S.T d env g).bind fun w g => okB (cmpD o3 z w) g
            | some false => .ok (.bl false) g
            | none => .stuck) R2 q2 fun d3 g3 v3 H3 γ3 R3 s3 p3 q3 => ?_
          have w3 := p3.op R3
          have w4 := (p2.step s3 R2 O.xr).op R3
          have p3v := p3
          rw [O.K] at w3 w4
          cases e2 : cmpD o2 d2 d3 with
          | none => simp only [e2] at q3; exact q3.elim
          | some t2 =>
            refine ⟨S.XR, _, γ3, _, _, t2, w4, w3, e2, t2, rfl, ?_⟩
            cases t2 with
            | false => simp only [e2] at q3; exact fin false g3 H3 γ3 R3 (s2.trans s3 R.cellne) q3
            | true =>
              simp only [e2] at q3
              refine seq1 (f := fun w g => okB (cmpD o3 d3 w) g) R3 q3 fun d4 g4 v4 H4 γ4 R4 s4 p4 q4 => ?_
              obtain ⟨u, e3, q5⟩ := q4.okB
              have w5 := p4.op R4
              have w6 := (p3v.step s4 R3 O.xr).op R4
              rw [O.K] at w5 w6
              exact ⟨S.XR, _, γ4, _, _, u, w6, w5, e3, fin u g4 H4 γ4 R4 ((s2.trans s3 R.cellne).trans s4 R.cellne) q5⟩
    have hm : lastMarks [pyCop o, pyCop o2, pyCop o3] [y, z, w] = false := mark_eq (nice_of h5) _
    refine ⟨PE.weak (pe_chain3 (cmp_ok o hu) (cmp_ok o2 hu) (cmp_ok o3 hu) (ha _ h2) (hb _ h3) (hc _ h4) (hd _ h5) hm) fun σ H Q ⟨env, g, γ, loc, R, q⟩ => ?_, PT.weak (pt_chain3 (cmp_ok o hu) (cmp_ok o2 hu) (cmp_ok o3 hu) (ha _ h2) (hb _ h3) (hc _ h4) (hd _ h5) hm) fun σ H Q ⟨env, g, γ, loc, R, q⟩ => ?_⟩
    · exact key R q fun c g2 H2 γ2 R2 s2 q3 => q3 _ H2 γ2 R2 s2 pst_bl
    · exact key (Q := fun x H' => ∃ k, x = .bl k ∧ Q k H') R q fun c g2 H2 γ2 R2 s2 ⟨b, eb, q3⟩ => ⟨c, rfl, by cases eb; exact q3 H2 γ2 R2 s2⟩
  · cases h
end
end Tv

set_option Elab.async false
set_option linter.all false
set_option maxRecDepth 100000
/-! Soundness of expressions, further. -/
namespace Tv
open PySem PySem.Spec PyProof.Rows L2

def plainT : Expr → Bool
  | .UnaryOp .. => false
  | .BoolOp .. => false
  | .IfExp .. => false
  | .Compare .. => false
  | _ => true
theorem isTrue_eq {e : Expr} (h : plainT e = true) (env : PySem.Env) : ∀ whole, isTrue e env whole = (do let v ← whole; standAt e.pos; holding [v] (truthy v)) := by
  intro whole
  cases e <;> first | rfl | cases h
theorem bad_t {e : Expr} (h : plainT e = false) : dName e = none ∧ dCst e = none ∧ dBin e = none ∧ dList e = none ∧ dTup e = none ∧ dSub e = none ∧ dCall e = none ∧ dMeth e = none ∧ dComp e = none := by
  cases e <;> first | cases h; done | exact ⟨rfl, rfl, rfl, rfl, rfl, rfl, rfl, rfl, rfl⟩
def isNeg : Ex → Bool | .neg _ => true | _ => false
theorem bad_ta {e : Expr} (h : plainT e = false) : dAttr e = none := by
  cases e <;> first | rfl | cases h
theorem plainT_of {C : Ct} {x : Ex} {e : Expr} (h : mtE C x e = true) (hl : isLog x = false) (hn : isNeg x = false) : plainT e = true := by
  cases ht : plainT e with
  | true => rfl
  | false =>
    obtain ⟨h1, h2, h3, h8, h9, h10, h11, h12, h13⟩ := bad_t ht
    have h14 := bad_ta ht
    cases x with
    | b1 o a => cases o <;> simp [mtE, h11] at h
    | neg _ => cases hn
    | not _ => cases hl
    | ands _ => cases hl
    | ors _ => cases hl
    | cmp _ _ _ => cases hl
    | cmpc _ _ _ => cases hl
    | chain _ _ _ _ _ => cases hl
    | chain3 _ _ _ _ _ _ _ => cases hl
    | isn _ => cases hl
    | nisn _ => cases hl
    | ife _ _ _ => cases hl
    | _ => simp [mtE, h1, h2, h3, h8, h9, h10, h11, h12, h13, h14] at h

section
variable {S : Se} {X : Cx} {C : Ct} {k : Nat} {W : WX} {e : Expr}
theorem t_of {x : Ex} (O : XOk S X C k W) (he : PE X e (tE S W x)) (hm : mtE C x e = true) (hl : isLog x = false) (hn : isNeg x = false) : PT X e (tT S W x) := by
  refine PT.weak (pt_val he (isTrue_eq (plainT_of hm hl hn) _)) fun σ H Q ⟨env, g, γ, loc, R, q⟩ => ?_
  refine ⟨env, g, γ, loc, R, q.mono (fun d g' ⟨b, eb, q1⟩ v H' γ' R' s' p => ?_) fun _ _ x => x⟩
  subst eb
  have := (p.val.op R').bl
  exact ⟨b, this, q1 H' γ' R' s'⟩
def tBx (S : Se) (W : WX) (f : Ex → Env → G → Res D) (x : Ex) : TE := fun σ H Q => ∃ env g γ loc, S.R env g σ H γ loc ∧ Sat (f x env g)
  (fun d g' => ∃ b, d = .bl b ∧ ∀ H' γ', S.R env g' σ H' γ' loc → StE γ loc H γ' H' → Q (.bl b) H') (Er S W env σ H γ loc)
/-- a list of truth values -/
structure PB (S : Se) (X : Cx) (C : Ct) (W : WX) (x : Ex) : Prop where
  an : ∀ es pos, es ≠ [] → mtEs C x es = true → PE X (.BoolOp .And es pos) (tBx S W (evAnd S.T) x)
  or : ∀ es pos, es ≠ [] → mtEs C x es = true → PE X (.BoolOp .Or es pos) (tBx S W (evOr S.T) x)
  anw : ∀ es pos, es ≠ [] → mtEs C x es = true → noIte x = true → PW X (.BoolOp .And es pos) (tB' S W (evAnd S.T) x)
  orw : ∀ es pos, es ≠ [] → mtEs C x es = true → noIte x = true → PW X (.BoolOp .Or es pos) (tB' S W (evOr S.T) x)
theorem evAnd_cons {T : List Fn} {a r : Ex} {env : Env} {g : G} : evAnd T (.cons a r) env g = (evE T a env g).bind fun x g => match x with
    | .bl true => evAnd T r env g
    | .bl false => .ok (.bl false) g
    | _ => .stuck := rfl
theorem evOr_cons {T : List Fn} {a r : Ex} {env : Env} {g : G} : evOr T (.cons a r) env g = (evE T a env g).bind fun x g => match x with
    | .bl false => evOr T r env g
    | .bl true => .ok (.bl true) g
    | _ => .stuck := rfl
theorem evAnd_bl {T : List Fn} : ∀ (es : Ex) (env : Env) (g : G) (d : D) (g' : G), evAnd T es env g = .ok d g' → ∃ b, d = .bl b := by
  intro es
  induction es with
  | nil => intro env g d g' h; simp [evAnd] at h; exact ⟨_, h.1.symm⟩
  | cons a r _ ih =>
    intro env g d g' h
    rw [evAnd_cons] at h
    cases e : evE T a env g with
    | ok x g1 =>
      rw [e] at h
      cases x with
      | bl b => cases b with
        | true => exact ih env g1 d g' h
        | false => simp at h; exact ⟨_, h.1.symm⟩
      | _ => simp at h
    | err c g1 => rw [e] at h; simp at h
    | stuck => rw [e] at h; simp at h
  | _ => intro env g d g' h; simp [evAnd] at h
theorem evOr_bl {T : List Fn} : ∀ (es : Ex) (env : Env) (g : G) (d : D) (g' : G), evOr T es env g = .ok d g' → ∃ b, d = .bl b := by
  intro es
  induction es with
  | nil => intro env g d g' h; simp [evOr] at h; exact ⟨_, h.1.symm⟩
  | cons a r _ ih =>
    intro env g d g' h
    rw [evOr_cons] at h
    cases e : evE T a env g with
    | ok x g1 =>
      rw [e] at h
      cases x with
      | bl b => cases b with
        | false => exact ih env g1 d g' h
        | true => simp at h; exact ⟨_, h.1.symm⟩
      | _ => simp at h
    | err c g1 => rw [e] at h; simp at h
    | stuck => rw [e] at h; simp at h
  | _ => intro env g d g' h; simp [evOr] at h
theorem mtEs_nil {C : Ct} {r : Ex} (h : mtEs C r [] = true) : r = .nil := by
  cases r <;> first | rfl | simp [mtEs] at h
theorem b_cons {a r : Ex} (O : XOk S X C k W) (ha : ∀ e, mtE C a e = true → PE X e (tE S W a)) (ht : ∀ e, mtE C a e = true → isIte a = false → PT X e (tT S W a)) (hr : PB S X C W r) : PB S X C W (.cons a r) := by
  refine ⟨fun es pos hne h => ?_, fun es pos hne h => ?_, fun es pos hne h hi => ?_, fun es pos hne h hi => ?_⟩
  all_goals cases es with
    | nil => exact absurd rfl hne
    | cons e es =>
      have h' : mtE C a e = true ∧ mtEs C r es = true := by simpa [mtEs] using h
      obtain ⟨h1, h2⟩ := h'
      cases es with
      | nil =>
        have := mtEs_nil h2
        subst this
        first
        | refine PE.weak (pe_one (ha _ h1)) fun σ H Q ⟨env, g, γ, loc, R, q⟩ => ?_
          first
          | rw [evAnd_cons] at q
            refine ⟨env, g, γ, loc, R, q.bind.mono (fun d g1 q1 v H1 γ1 R1 s1 p1 => ?_) fun _ _ x => x⟩
            cases d with
            | bl b =>
              have := (p1.val.op R1).bl; subst this
              cases b <;> (obtain ⟨c, ec, q2⟩ := q1; cases ec; exact q2 H1 γ1 R1 s1)
            | _ => exact q1.elim
          | rw [evOr_cons] at q
            refine ⟨env, g, γ, loc, R, q.bind.mono (fun d g1 q1 v H1 γ1 R1 s1 p1 => ?_) fun _ _ x => x⟩
            cases d with
            | bl b =>
              have := (p1.val.op R1).bl; subst this
              cases b <;> (obtain ⟨c, ec, q2⟩ := q1; cases ec; exact q2 H1 γ1 R1 s1)
            | _ => exact q1.elim
        | have hi' : isIte a = false := by simpa [noIte] using hi
          first
          | refine PW.weak (pw_and1 (ht _ h1 hi')) fun σ H Q ⟨env, g, γ, loc, R, q⟩ => ?_
            rw [evAnd_cons] at q
            refine ⟨env, g, γ, loc, R, q.bind.mono (fun d g1 q1 => ?_) fun _ _ x => x⟩
            cases d with
            | bl b => cases b <;> (obtain ⟨c, ec, q2⟩ := q1; cases ec; exact ⟨_, rfl, q2⟩)
            | _ => exact q1.elim
          | refine PW.weak (pw_or1 (ht _ h1 hi')) fun σ H Q ⟨env, g, γ, loc, R, q⟩ => ?_
            rw [evOr_cons] at q
            refine ⟨env, g, γ, loc, R, q.bind.mono (fun d g1 q1 => ?_) fun _ _ x => x⟩
            cases d with
            | bl b => cases b <;> (obtain ⟨c, ec, q2⟩ := q1; cases ec; exact ⟨_, rfl, q2⟩)
            | _ => exact q1.elim
      | cons e2 es =>
        first
        | refine PE.weak (pe_and (ha _ h1) (hr.an _ pos (by simp) h2)) fun σ H Q ⟨env, g, γ, loc, R, q⟩ => ?_
          rw [evAnd_cons] at q
          refine ⟨env, g, γ, loc, R, q.bind.mono (fun d g1 q1 v H1 γ1 R1 s1 p1 => ?_) fun _ _ x => x⟩
          cases d with
          | bl b =>
            have := (p1.val.op R1).bl; subst this
            refine ⟨b, rfl, ?_⟩
            cases b with
            | false => obtain ⟨c, ec, q2⟩ := q1; cases ec; exact q2 H1 γ1 R1 s1
            | true => exact ⟨env, g1, γ1, loc, R1, q1.mono (fun d g2 ⟨b, eb, q2⟩ => ⟨b, eb, fun H' γ' R' s' => q2 H' γ' R' (s1.trans s' R.cellne)⟩) fun c g' => Er.trans R s1⟩
          | _ => exact q1.elim
        | refine PE.weak (pe_or (ha _ h1) (hr.or _ pos (by simp) h2)) fun σ H Q ⟨env, g, γ, loc, R, q⟩ => ?_
          rw [evOr_cons] at q
          refine ⟨env, g, γ, loc, R, q.bind.mono (fun d g1 q1 v H1 γ1 R1 s1 p1 => ?_) fun _ _ x => x⟩
          cases d with
          | bl b =>
            have := (p1.val.op R1).bl; subst this
            refine ⟨b, rfl, ?_⟩
            cases b with
            | true => obtain ⟨c, ec, q2⟩ := q1; cases ec; exact q2 H1 γ1 R1 s1
            | false => exact ⟨env, g1, γ1, loc, R1, q1.mono (fun d g2 ⟨b, eb, q2⟩ => ⟨b, eb, fun H' γ' R' s' => q2 H' γ' R' (s1.trans s' R.cellne)⟩) fun c g' => Er.trans R s1⟩
          | _ => exact q1.elim
        | have hi' : isIte a = false ∧ noIte r = true := by simpa [noIte] using hi
          first
          | refine PW.weak (pw_and (ht _ h1 hi'.1) (hr.anw _ pos (by simp) h2 hi'.2)) fun σ H Q ⟨env, g, γ, loc, R, q⟩ => ?_
            rw [evAnd_cons] at q
            refine ⟨env, g, γ, loc, R, q.bind.mono (fun d g1 q1 => ?_) fun _ _ x => x⟩
            cases d with
            | bl b =>
              refine ⟨b, rfl, fun H1 γ1 R1 s1 => ?_⟩
              cases b with
              | false => obtain ⟨c, ec, q2⟩ := q1; cases ec; exact q2 H1 γ1 R1 s1
              | true => exact ⟨env, g1, γ1, loc, R1, q1.mono (fun d g2 ⟨b, eb, q2⟩ => ⟨b, eb, fun H' γ' R' s' => q2 H' γ' R' (s1.trans s' R.cellne)⟩) fun c g' => Er.trans R s1⟩
            | _ => exact q1.elim
          | refine PW.weak (pw_or (ht _ h1 hi'.1) (hr.orw _ pos (by simp) h2 hi'.2)) fun σ H Q ⟨env, g, γ, loc, R, q⟩ => ?_
            rw [evOr_cons] at q
            refine ⟨env, g, γ, loc, R, q.bind.mono (fun d g1 q1 => ?_) fun _ _ x => x⟩
            cases d with
            | bl b =>
              refine ⟨b, rfl, fun H1 γ1 R1 s1 => ?_⟩
              cases b with
              | true => obtain ⟨c, ec, q2⟩ := q1; cases ec; exact q2 H1 γ1 R1 s1
              | false => exact ⟨env, g1, γ1, loc, R1, q1.mono (fun d g2 ⟨b, eb, q2⟩ => ⟨b, eb, fun H' γ' R' s' => q2 H' γ' R' (s1.trans s' R.cellne)⟩) fun c g' => Er.trans R s1⟩
            | _ => exact q1.elim
theorem s_ands {es : Ex} (O : XOk S X C k W) (hb : PB S X C W es) (h : mtE C (.ands es) e = true) : PE X e (tE S W (.ands es)) ∧ PT X e (tT S W (.ands es)) := by
  simp only [mtE] at h
  split at h
  · rename_i xs hx
    obtain ⟨p, rfl⟩ := dBool_eq hx
    simp only [Bool.and_eq_true, Bool.not_eq_true'] at h
    obtain ⟨⟨h1, h2⟩, h3⟩ := h
    have hne : xs ≠ [] := by rintro rfl; cases h1
    refine ⟨PE.weak (hb.an xs p hne h2) fun σ H Q ⟨env, g, γ, loc, R, q⟩ => ?_, PT.weak (hb.anw xs p hne h2 h3).pt fun σ H Q ⟨env, g, γ, loc, R, q⟩ => ⟨env, g, γ, loc, R, q⟩⟩
    have all := evAnd_bl (T := S.T) es env g
    simp only [evE] at q
    cases hv : evAnd S.T es env g with
    | stuck => rw [hv] at q; exact q.elim
    | err c g' => rw [hv] at q; exact ⟨env, g, γ, loc, R, by rw [hv]; exact q⟩
    | ok d g' =>
      obtain ⟨b, rfl⟩ := all d g' hv
      rw [hv] at q
      exact ⟨env, g, γ, loc, R, by rw [hv]; exact ⟨b, rfl, fun H' γ' R' s' => q _ H' γ' R' s' pst_bl⟩⟩
  · cases h
theorem s_ors {es : Ex} (O : XOk S X C k W) (hb : PB S X C W es) (h : mtE C (.ors es) e = true) : PE X e (tE S W (.ors es)) ∧ PT X e (tT S W (.ors es)) := by
  simp only [mtE] at h
  split at h
  · rename_i xs hx
    obtain ⟨p, rfl⟩ := dBool_eq hx
    simp only [Bool.and_eq_true, Bool.not_eq_true'] at h
    obtain ⟨⟨h1, h2⟩, h3⟩ := h
    have hne : xs ≠ [] := by rintro rfl; cases h1
    refine ⟨PE.weak (hb.or xs p hne h2) fun σ H Q ⟨env, g, γ, loc, R, q⟩ => ?_, PT.weak (hb.orw xs p hne h2 h3).pt fun σ H Q ⟨env, g, γ, loc, R, q⟩ => ⟨env, g, γ, loc, R, q⟩⟩
    have all := evOr_bl (T := S.T) es env g
    simp only [evE] at q
    cases hv : evOr S.T es env g with
    | stuck => rw [hv] at q; exact q.elim
    | err c g' => rw [hv] at q; exact ⟨env, g, γ, loc, R, by rw [hv]; exact q⟩
    | ok d g' =>
      obtain ⟨b, rfl⟩ := all d g' hv
      rw [hv] at q
      exact ⟨env, g, γ, loc, R, by rw [hv]; exact ⟨b, rfl, fun H' γ' R' s' => q _ H' γ' R' s' pst_bl⟩⟩
  · cases h
theorem dCst_non {e : Expr} (h : dCst e = some .non) : ∃ k p, e = .Constant .none k p := by
  unfold dCst at h
  split at h <;> first | (cases h; done) | exact ⟨_, _, rfl⟩
theorem rp_non_iff {K XR F γ H} {d : D} {v : V} (h : Rp K XR F γ H d v) : decide (v = V.non) = isNon d := by
  cases d with
  | non => unfold Rp at h; subst h; rfl
  | bl b => unfold Rp at h; subst h; rfl
  | int b => unfold Rp at h; subst h; rfl
  | str b => unfold Rp at h; subst h; rfl
  | lst ds => unfold Rp at h; obtain ⟨a, xs, rfl, _⟩ := h; rfl
  | tup ds => unfold Rp at h; obtain ⟨a, xs, rfl, _⟩ := h; rfl
  | exc c => unfold Rp at h; obtain ⟨a, rfl, _⟩ := h; rfl
  | cell c => unfold Rp at h; obtain ⟨a, rfl, _⟩ := h; rfl
  | scr c => unfold Rp at h; obtain ⟨a, rfl, _⟩ := h; rfl
  | ins c => unfold Rp at h; obtain ⟨a, _, _, _, _, _, rfl, _⟩ := h; rfl
theorem val_non {env : Env} {loc : Lc} {γ : List Addr} {H : Hp} {g : G} {σ : L2.St} {d : D} {v : V} (R : S.R env g σ H γ loc) (h : Val S env loc γ H d v) : decide (v = V.non) = isNon d := by
  rcases h with ⟨i, a, hm, hl, rfl, hd⟩ | h
  · obtain ⟨a', xs, ds, rfl, _⟩ := R.slotM i d hm hd
    rfl
  · exact rp_non_iff h
theorem s_isn {a : Ex} (O : XOk S X C k W) (ha : ∀ e, mtE C a e = true → PE X e (tE S W a)) (h : mtE C (.isn a) e = true) : PE X e (tE S W (.isn a)) ∧ PT X e (tT S W (.isn a)) := by
  simp only [mtE] at h
  split at h
  · rename_i x n hx
    obtain ⟨p, rfl⟩ := dCmp_eq hx
    simp only [Bool.and_eq_true] at h
    obtain ⟨h1, h2⟩ := h
    have hn : dCst n = some .non := by
      split at h2
      · assumption
      · cases h2
    obtain ⟨k2, p2, rfl⟩ := dCst_non hn
    refine ⟨PE.weak (pe_cmp (pc_isN (ha _ h1)) rfl) fun σ H Q ⟨env, g, γ, loc, R, q⟩ => ?_, PT.weak (pt_cmp (pc_isN (ha _ h1)) rfl) fun σ H Q ⟨env, g, γ, loc, R, q⟩ => ?_⟩
    · simp only [evE] at q
      refine seq1 R q fun d1 g2 v1 H2 γ2 R2 s2 p1 q2 => ?_
      show Q (.bl (decide (v1 = .non))) H2
      rw [val_non R2 p1]
      exact q2 _ H2 γ2 R2 s2 pst_bl
    · simp only [evE] at q
      refine seq1 (Rr := fun x H1 => ∃ c, V.bl (decide (x = .non)) = .bl c ∧ Q c H1) R q fun d1 g2 v1 H2 γ2 R2 s2 p1 q2 => ?_
      obtain ⟨b, eb, q3⟩ := q2
      refine ⟨_, rfl, ?_⟩
      rw [val_non R2 p1]
      cases eb
      exact q3 H2 γ2 R2 s2
  · cases h
theorem s_nisn {a : Ex} (O : XOk S X C k W) (ha : ∀ e, mtE C a e = true → PE X e (tE S W a)) (h : mtE C (.nisn a) e = true) : PE X e (tE S W (.nisn a)) ∧ PT X e (tT S W (.nisn a)) := by
  simp only [mtE] at h
  split at h
  · rename_i x n hx
    obtain ⟨p, rfl⟩ := dCmp_eq hx
    simp only [Bool.and_eq_true] at h
    obtain ⟨h1, h2⟩ := h
    have hn : dCst n = some .non := by
      split at h2
      · assumption
      · cases h2
    obtain ⟨k2, p2, rfl⟩ := dCst_non hn
    refine ⟨PE.weak (pe_cmp (pc_notN (ha _ h1)) rfl) fun σ H Q ⟨env, g, γ, loc, R, q⟩ => ?_, PT.weak (pt_cmp (pc_notN (ha _ h1)) rfl) fun σ H Q ⟨env, g, γ, loc, R, q⟩ => ?_⟩
    · simp only [evE] at q
      refine seq1 R q fun d1 g2 v1 H2 γ2 R2 s2 p1 q2 => ?_
      show Q (.bl (!decide (v1 = .non))) H2
      rw [val_non R2 p1]
      exact q2 _ H2 γ2 R2 s2 pst_bl
    · simp only [evE] at q
      refine seq1 (Rr := fun x H1 => ∃ c, V.bl (!decide (x = .non)) = .bl c ∧ Q c H1) R q fun d1 g2 v1 H2 γ2 R2 s2 p1 q2 => ?_
      obtain ⟨b, eb, q3⟩ := q2
      refine ⟨_, rfl, ?_⟩
      rw [val_non R2 p1]
      cases eb
      exact q3 H2 γ2 R2 s2
  · cases h
theorem isBor_fl {x : Ex} (h : isBor x = false) : (fl x).isB = false := by
  cases x with
  | bvar _ => cases h
  | b1 o a => cases o <;> rfl
  | _ => rfl
theorem s_ife {c a b : Ex} (O : XOk S X C k W) (hc : ∀ e, mtE C c e = true → isIte c = false → PT X e (tT S W c)) (ha : ∀ e, mtE C a e = true → PE X e (tE S W a)) (hb : ∀ e, mtE C b e = true → PE X e (tE S W b))
    (h : mtE C (.ife c a b) e = true) : PE X e (tE S W (.ife c a b)) := by
  simp only [mtE] at h
  split at h
  · rename_i x y z hx
    obtain ⟨p, rfl⟩ := dIf_eq hx
    simp only [Bool.and_eq_true, Bool.not_eq_true'] at h
    obtain ⟨⟨⟨⟨⟨h1, h2⟩, h3⟩, h4⟩, h5⟩, h6⟩ := h
    refine PE.weak (pe_ifExp (hc _ h1 h6) (ha _ h2) (hb _ h3)) fun σ H Q ⟨env, g, γ, loc, R, q⟩ => ?_
    simp only [evE] at q
    refine ⟨env, g, γ, loc, R, q.bind.mono (fun d g1 q1 => ?_) fun _ _ x => x⟩
    cases d with
    | bl t =>
      refine ⟨t, rfl, fun H1 γ1 R1 s1 => ?_⟩
      cases t with
      | true => exact ⟨env, g1, γ1, loc, R1, q1.mono (fun d g2 q2 v H' γ' R' s' p' => q2 v H' γ' R' (s1.trans s' R.cellne) (p'.rp (isBor_fl h4))) fun c g' => Er.trans R s1⟩
      | false => exact ⟨env, g1, γ1, loc, R1, q1.mono (fun d g2 q2 v H' γ' R' s' p' => q2 v H' γ' R' (s1.trans s' R.cellne) (p'.rp (isBor_fl h5))) fun c g' => Er.trans R s1⟩
    | _ => exact q1.elim
  · cases h
/-! ### lists of expressions -/
theorem es_nil (O : XOk S X C k W) {es : List Expr} (h : mtEs C .nil es = true) : PA X es (tEs S W .nil) := by
  cases es with
  | cons e es => simp [mtEs] at h
  | nil =>
    refine PA.weak pa_nil fun σ H Q ⟨env, g, γ, loc, R, q⟩ => ?_
    exact q [] H γ R .refl rfl fun _ => .nil
theorem ValL.step {env : Env} {loc : Lc} {γ γ' : List Addr} {H H' : Hp} {g : G} {σ : L2.St} (s : StE γ loc H γ' H') (R : S.R env g σ H γ loc) (hx : XRok S.XR) : ∀ {ds : List D} {vs : List V}, ValL S env loc γ H ds vs → ValL S env loc γ' H' ds vs
  | [], _, h => h
  | d :: ds, vs, ⟨v, r, e, h1, h2⟩ => ⟨v, r, e, h1.step s R hx, ValL.step s R hx h2⟩
theorem es_cons {a r : Ex} (O : XOk S X C k W) (ha : ∀ e, mtE C a e = true → PE X e (tE S W a)) (hr : ∀ es, mtEs C r es = true → PA X es (tEs S W r)) {es : List Expr} (h : mtEs C (.cons a r) es = true) : PA X es (tEs S W (.cons a r)) := by
  cases es with
  | nil => simp [mtEs] at h
  | cons e es =>
    have h' : mtE C a e = true ∧ mtEs C r es = true := by simpa [mtEs] using h
    refine PA.weak (pa_cons (ha _ h'.1) (hr _ h'.2) (star_eq (nice_of h'.1) _ _)) fun σ H Q ⟨env, g, γ, loc, R, q⟩ => ?_
    simp only [evEs] at q
    refine ⟨env, g, γ, loc, R, q.bind.mono (fun d g1 q1 v H1 γ1 R1 s1 p1 => ?_) fun _ _ x => x⟩
    refine ⟨env, g1, γ1, loc, R1, q1.bind.mono (fun ds g2 q2 vs H2 γ2 R2 s2 l2 n2 => ?_) fun c g' => Er.trans R s1⟩
    refine q2 (v :: vs) H2 γ2 R2 (s1.trans s2 R.cellne) ⟨v, vs, rfl, p1.val.step s2 R1 O.xr, l2⟩ fun hb => ?_
    have hb' : isBor a = false ∧ noBor r = true := by simpa [noBor] using hb
    exact .cons ((p1.rp (isBor_fl hb'.1)).mono (s2.mono (loc' := loc) R1 O.xr)) (n2 hb'.2)
theorem len_small {n : Nat} (h : n ≤ 100) : n ≤ sizeLine := Nat.le_trans h (by decide)
theorem mtEs_len {C : Ct} {T : List Fn} : ∀ (x : Ex) {es : List Expr} {env : Env} {g g' : G} {ds : List D}, mtEs C x es = true → evEs T x env g = .ok ds g' → ds.length = es.length := by
  intro x
  induction x with
  | nil =>
    intro es env g g' ds h q
    cases es with
    | nil => simp [evEs] at q; rw [q.1]; simp
    | cons e es => simp [mtEs] at h
  | cons a r _ ih =>
    intro es env g g' ds h q
    cases es with
    | nil => simp [mtEs] at h
    | cons e es =>
      have h' : mtE C a e = true ∧ mtEs C r es = true := by simpa [mtEs] using h
      simp only [evEs] at q
      cases e1 : evE T a env g with
      | ok x g1 =>
        rw [e1] at q
        simp only [Res.bind] at q
        cases e2 : evEs T r env g1 with
        | ok xs g2 =>
          rw [e2] at q
          simp at q
          rw [← q.1, List.length_cons, ih h'.2 e2]; rfl
        | err c g2 => rw [e2] at q; simp at q
        | stuck => rw [e2] at q; simp at q
      | err c g2 => rw [e1] at q; simp at q
      | stuck => rw [e1] at q; simp at q
  | _ => intro es env g g' ds h q; simp [evEs] at q
/-- a new object at p -/
theorem alloc_new {env : Env} {loc : Lc} {γ : List Addr} {H : Hp} {g : G} {σ : L2.St} (R : S.R env g σ H γ loc) (hx : XRok S.XR) {p : Addr} {o : HO} (hp : H p = none) : S.R env g σ (upd H p o) γ loc ∧ StE γ loc H γ (upd H p o) :=
  ⟨R.alloc hx hp, (Next.alloc hp).ste R⟩
theorem fp_new {env : Env} {loc : Lc} {γ : List Addr} {H : Hp} {g : G} {σ : L2.St} (R : S.R env g σ H γ loc) {p : Addr} (hp : H p = none) : ¬ Fp γ loc S.ext p := by
  rintro (z | ⟨i, z⟩ | z)
  · exact R.cellne p z hp
  · obtain ⟨ys, e⟩ := R.own z
    rw [e] at hp; cases hp
  · exact R.ex p z hp
end
end Tv

set_option Elab.async false
set_option linter.all false
set_option maxRecDepth 100000
/-! Soundness of expressions: displays, items, calls. -/
namespace Tv
open PySem PySem.Spec PyProof.Rows L2

section
variable {S : Se} {X : Cx} {C : Ct} {k : Nat} {W : WX} {e : Expr}

theorem s_list {es : Ex} (O : XOk S X C k W) (ha : ∀ xs, mtEs C es xs = true → PA X xs (tEs S W es)) (h : mtE C (.list es) e = true) : PE X e (tE S W (.list es)) := by
  simp only [mtE] at h
  split at h
  · rename_i xs hx
    obtain ⟨p, rfl⟩ := dList_eq hx
    simp only [Bool.and_eq_true, decide_eq_true_eq] at h
    obtain ⟨⟨h1, h2⟩, h3⟩ := h
    refine PE.weak (pe_lst (ha _ h1)) fun σ H Q ⟨env, g, γ, loc, R, q⟩ => ?_
    simp only [evE] at q
    cases e1 : evEs S.T es env g with
    | stuck => rw [e1] at q; exact q.elim
    | err c g' => rw [e1] at q; exact ⟨env, g, γ, loc, R, by rw [e1]; exact q⟩
    | ok ds g' =>
      rw [e1] at q
      refine ⟨env, g, γ, loc, R, ?_⟩
      rw [e1]
      intro vs H1 γ1 R1 s1 l n
      have hl : ds.length = xs.length := mtEs_len _ h1 e1
      have r := n h2
      refine ⟨by rw [r.len, hl]; exact len_small h3, fun p hp => ?_⟩
      obtain ⟨R2, s2⟩ := alloc_new R1 O.xr (o := .lst vs) hp
      refine q (.ref p) _ γ1 R2 (s1.trans s2 R.cellne) (.inr ⟨p, vs, ds, ?_, upd_same, rfl, rfl, r.mono (avoid (s2.mono (loc' := loc) R1 O.xr) hp), fp_new R1 hp⟩)
      cases z : H p with
      | none => rfl
      | some o => exact absurd hp (s1.live p (by rw [z]; simp))
  · cases h
theorem s_tuple {es : Ex} (O : XOk S X C k W) (ha : ∀ xs, mtEs C es xs = true → PA X xs (tEs S W es)) (h : mtE C (.tuple es) e = true) : PE X e (tE S W (.tuple es)) := by
  simp only [mtE] at h
  split at h
  · rename_i xs hx
    obtain ⟨kk, p, rfl⟩ := dTup_eq hx
    simp only [Bool.and_eq_true, decide_eq_true_eq] at h
    obtain ⟨⟨h1, h2⟩, h3⟩ := h
    refine PE.weak (pe_tup (ha _ h1)) fun σ H Q ⟨env, g, γ, loc, R, q⟩ => ?_
    simp only [evE] at q
    cases e1 : evEs S.T es env g with
    | stuck => rw [e1] at q; exact q.elim
    | err c g' => rw [e1] at q; exact ⟨env, g, γ, loc, R, by rw [e1]; exact q⟩
    | ok ds g' =>
      rw [e1] at q
      refine ⟨env, g, γ, loc, R, ?_⟩
      rw [e1]
      intro vs H1 γ1 R1 s1 l n
      have hl : ds.length = xs.length := mtEs_len _ h1 e1
      have r := n h2
      refine ⟨by rw [r.len, hl]; exact len_small h3, fun p hp => ?_⟩
      obtain ⟨R2, s2⟩ := alloc_new R1 O.xr (o := .tup vs) hp
      refine q (.ref p) _ γ1 R2 (s1.trans s2 R.cellne) ?_
      show Rp S.K S.XR _ γ1 _ _ _
      unfold Rp
      exact ⟨p, vs, rfl, SqT.of upd_same, r.mono (s2.mono (loc' := loc) R1 O.xr)⟩
  · cases h
/-- a new list becomes a cell -/
theorem add_cell {env : Env} {loc : Lc} {γ : List Addr} {H H' : Hp} {g : G} {σ : L2.St} {ds : List D} {vs : List V} {p : Addr} (R : S.R env g σ H γ loc) (hx : XRok S.XR) (hp : H p = none) (e : H' = upd H p (.lst vs)) (nl : nolistL ds = true)
    (r : RpL S.K S.XR (Fp γ loc S.ext) γ H ds vs) : S.R env (g ++ [.lst ds]) σ H' (γ ++ [p]) loc ∧ StE γ loc H (γ ++ [p]) H' := by
  subst e
  have n : Next γ H (γ ++ [p]) (upd H p (.lst vs)) := by
    have n0 : Next γ H γ (upd H p (.lst vs)) := .alloc hp
    refine ⟨n0.keep, n0.live, List.prefix_append _ _, fun a ha => ?_⟩
    rcases List.mem_append.mp ha with z | z
    · exact .inl z
    · have : a = p := by simpa using z
      subst this; exact .inr hp
  have pn : p ∉ γ := fun z => R.cellne p z hp
  refine ⟨R.next n hx (by rw [List.length_append, List.length_append, R.gl]; rfl) (List.nodup_append.mpr ⟨R.gnd, by simp, fun a ha b hb => ?_⟩) fun m a c e1 e2 => ?_, n.ste R⟩
  · have : b = p := by simpa using hb
    subst this
    rintro rfl
    exact pn ha
  · by_cases hm : m < γ.length
    · rw [List.getElem?_append_left hm] at e1
      rw [List.getElem?_append_left (R.gl ▸ hm)] at e2
      have q := R.cells m a c e1 e2
      cases c with
      | ins _ _ => exact q.elim
      | lst es =>
        obtain ⟨nl2, ys, e3, r3⟩ := q
        exact ⟨nl2, ys, by rw [upd_ne (ne_of_none e3 hp)]; exact e3, Mono.f0 R n hx nl2 r3⟩
    · have hml : m = γ.length := by
        have := (List.getElem?_eq_some_iff.mp e1).1
        simp at this; omega
      subst hml
      rw [List.getElem?_append_right (Nat.le_refl _)] at e1
      have e2' : (g ++ [Cl.lst ds])[g.length]? = some c := by rw [← R.gl]; exact e2
      rw [List.getElem?_append_right (Nat.le_refl _)] at e2'
      simp at e1 e2'
      subst e1 e2'
      exact ⟨nl, vs, upd_same, RpL.F0 nl (r.mono (n.mono hx R))⟩
theorem s_clist {es : Ex} (O : XOk S X C k W) (ha : ∀ xs, mtEs C es xs = true → PA X xs (tEs S W es)) (h : mtE C (.clist es) e = true) : PE X e (tE S W (.clist es)) := by
  simp only [mtE] at h
  split at h
  · rename_i xs hx
    obtain ⟨p, rfl⟩ := dList_eq hx
    simp only [Bool.and_eq_true, decide_eq_true_eq] at h
    obtain ⟨⟨h1, h2⟩, h3⟩ := h
    refine PE.weak (pe_lst (ha _ h1)) fun σ H Q ⟨env, g, γ, loc, R, q⟩ => ?_
    simp only [evE] at q
    cases e1 : evEs S.T es env g with
    | stuck => rw [e1] at q; exact q.elim
    | err c g' => rw [e1] at q; exact ⟨env, g, γ, loc, R, by rw [e1]; exact q⟩
    | ok ds g' =>
      rw [e1] at q
      refine ⟨env, g, γ, loc, R, ?_⟩
      rw [e1]
      intro vs H1 γ1 R1 s1 l n
      have hl : ds.length = xs.length := mtEs_len _ h1 e1
      have r := n h2
      refine ⟨by rw [r.len, hl]; exact len_small h3, fun p hp => ?_⟩
      simp only [Res.bind] at q
      split at q
      · rename_i nl
        obtain ⟨R2, s2⟩ := add_cell R1 O.xr hp rfl nl r
        refine q (.ref p) _ _ R2 (s1.trans s2 R.cellne) ?_
        show Rp S.K S.XR _ _ _ _ _
        unfold Rp
        exact ⟨p, rfl, by rw [← R1.gl, List.getElem?_append_right (Nat.le_refl _)]; simp⟩
      · exact q.elim
  · cases h
theorem nolist_ints : ∀ ns : List Int, nolistL (ns.map D.int) = true
  | [] => rfl
  | n :: r => by simp [nolistL, nolist, nolist_ints r]
theorem s_clistof {a : Ex} (O : XOk S X C k W) (ha : ∀ e, mtE C a e = true → PE X e (tE S W a)) (h : mtE C (.clistof a) e = true) : PE X e (tE S W (.clistof a)) := by
  simp only [mtE] at h
  split at h
  · rename_i f x hx
    obtain ⟨p, p2, rfl⟩ := dCall_eq hx
    simp only [Bool.and_eq_true] at h
    obtain ⟨h1, h2⟩ := h
    obtain ⟨ef, b1, b2, b3, b4⟩ := isB_ok O h1
    subst ef
    have nx := nice_of h2
    refine PE.weak (pe_callTy call_list_of b1 b2 boot_list (pa_cons (ha _ h2) pa_nil (star_eq nx _ _)) b4 b3 (star_eq nx _ _) rfl) fun σ H Q ⟨env, g, γ, loc, R, q⟩ => ?_
    simp only [evE] at q
    refine seq1 (Rr := fun v H1 => tNil σ H1 fun vs H2 => (fun xs H Q => ∃ p ys, xs = [V.ref p] ∧ (SqL X.K H p ys ∨ SqT X.K H p ys) ∧ ∀ l, H l = none → Q (.ref l) (upd H l (.lst ys))) (v :: vs) H2 Q) R q fun d1 g2 v1 H2 γ2 R2 s2 p1 q2 => ?_
    have o1 := p1.op R2
    cases d1 with
    | lst xs =>
      obtain ⟨l, ys, rfl, e1, r⟩ := o1
      refine ⟨_, ys, rfl, .inl (SqL.of e1), fun l hl => ?_⟩
      simp only at q2
      split at q2
      · rename_i nl
        obtain ⟨R3, s3⟩ := add_cell R2 O.xr hl rfl nl r
        refine q2 (.ref l) _ _ R3 (s2.trans s3 R.cellne) ?_
        show Rp S.K S.XR _ _ _ _ _
        unfold Rp
        exact ⟨l, rfl, by rw [← R2.gl, List.getElem?_append_right (Nat.le_refl _)]; simp⟩
      · exact q2.elim
    | scr ns =>
      unfold OpV Rp at o1
      obtain ⟨l, rfl, e1⟩ := o1
      rw [O.K] at e1
      refine ⟨_, _, rfl, .inl e1.sq, fun l hl => ?_⟩
      obtain ⟨R3, s3⟩ := add_cell R2 O.xr hl rfl (nolist_ints ns) (RpL.of_ints ns)
      refine q2 (.ref l) _ _ R3 (s2.trans s3 R.cellne) ?_
      show Rp S.K S.XR _ _ _ _ _
      unfold Rp
      exact ⟨l, rfl, by rw [← R2.gl, List.getElem?_append_right (Nat.le_refl _)]; simp⟩
    | _ => exact q2.elim
  · cases h
theorem s_sub {a i : Ex} (O : XOk S X C k W) (ha : ∀ e, mtE C a e = true → PE X e (tE S W a)) (hi : ∀ e, mtE C i e = true → PE X e (tE S W i)) (h : mtE C (.sub a i) e = true) : PE X e (tE S W (.sub a i)) := by
  simp only [mtE] at h
  split at h
  · rename_i x y hx
    obtain ⟨p, rfl⟩ := dSub_eq hx
    simp only [Bool.and_eq_true] at h
    obtain ⟨h1, h2⟩ := h
    refine PE.weak (pe_ix sub_ok (ha _ h1) (hi _ h2) (plain_ix (nice_of h2))) fun σ H Q ⟨env, g, γ, loc, R, q⟩ => ?_
    simp only [evE] at q
    refine seq2 (f := fun x y g => match y with
      | .int k => okR (subD (dr g x) k) g
      | _ => .stuck) O R q fun d1 d2 g2 v1 v2 H2 γ2 R2 s2 p1 p2 q2 => ?_
    have o1 := p1.opd R2
    have o2 := p2.op R2
    rw [O.K] at o1
    cases d2 with
    | int k =>
      obtain ⟨d, e1, q3⟩ := Sat.okR q2
      have := o2.int; subst this
      refine ⟨S.XR, _, γ2, _, k, d, o1, rfl, e1, fun v r => ?_⟩
      rw [← O.K] at r
      exact q3 v H2 γ2 R2 s2 r
    | _ => exact q2.elim
  · cases h
theorem o_absent (h : mtO C .absent o = true) : PO X o (tOx S W .absent) := by
  cases o with
  | some e => simp [mtO] at h
  | none => exact PO.weak po_none fun σ H Q ⟨env, g, γ, loc, R, q⟩ => q H γ R .refl
theorem o_opt {a : Ex} (O : XOk S X C k W) (ha : ∀ e, mtE C a e = true → PE X e (tE S W a)) (h : mtO C (.opt a) o = true) : PO X o (tOx S W (.opt a)) := by
  cases o with
  | none => simp [mtO] at h
  | some e =>
    refine PO.weak (po_some (ha e (by simpa [mtO] using h))) fun σ H Q ⟨env, g, γ, loc, R, q⟩ => ?_
    simp only [evO] at q
    refine ⟨env, g, γ, loc, R, q.bind.mono (fun d g1 q1 v H1 γ1 R1 s1 p1 => ?_) fun _ _ x => x⟩
    cases d with
    | int i =>
      have := (p1.val.op R1).int; subst this
      exact ⟨i, rfl, q1 H1 γ1 R1 s1⟩
    | _ => exact q1.elim
theorem s_slice {a lo hi : Ex} (O : XOk S X C k W) (ha : ∀ e, mtE C a e = true → PE X e (tE S W a)) (hl : ∀ o, mtO C lo o = true → PO X o (tOx S W lo)) (hh : ∀ o, mtO C hi o = true → PO X o (tOx S W hi))
    (h : mtE C (.slice a lo hi) e = true) : PE X e (tE S W (.slice a lo hi)) := by
  simp only [mtE] at h
  split at h
  · rename_i x y hx
    obtain ⟨p, rfl⟩ := dSub_eq hx
    split at h
    · rename_i l u hs
      obtain ⟨p2, e2⟩ := dSlice_eq hs
      simp only at e2
      subst e2
      simp only [Bool.and_eq_true] at h
      obtain ⟨⟨h1, h2⟩, h3⟩ := h
      refine PE.weak (pe_slice cut_ok (ha _ h1) (hl _ h2) (hh _ h3)) fun σ H Q ⟨env, g, γ, loc, R, q⟩ => ?_
      simp only [evE] at q
      refine ⟨env, g, γ, loc, R, q.bind.mono (fun d1 g1 q1 v1 H1 γ1 R1 s1 p1 => ?_) fun _ _ x => x⟩
      refine ⟨env, g1, γ1, loc, R1, q1.bind.mono (fun l g2 q2 H2 γ2 R2 s2 => ?_) fun c g' => Er.trans R s1⟩
      have s12 := s1.trans s2 R.cellne
      refine ⟨env, g2, γ2, loc, R2, q2.bind.mono (fun u g3 q3 H3 γ3 R3 s3 => ?_) fun c g' => Er.trans R s12⟩
      have s13 := s12.trans s3 R.cellne
      have o1 := ((p1.val.step s2 R1 O.xr).step s3 R2 O.xr).opd R3
      rw [O.K] at o1
      obtain ⟨d, e1, q4⟩ := Sat.okR q3
      refine ⟨S.XR, _, γ3, _, d, o1, e1, fun v H' got => ?_⟩
      rw [← O.K] at got
      obtain ⟨R4, s4, nw⟩ := got_fin R3 O.xr got
      exact q4 v H' γ3 R4 (s13.trans s4 R.cellne) (nw.back s13)
    · cases h
  · cases h
theorem s_rev {a : Ex} (O : XOk S X C k W) (ha : ∀ e, mtE C a e = true → PE X e (tE S W a)) (h : mtE C (.rev a) e = true) : PE X e (tE S W (.rev a)) := by
  simp only [mtE] at h
  split at h
  · rename_i x y hx
    obtain ⟨p, rfl⟩ := dSub_eq hx
    split at h
    · rename_i s hs
      obtain ⟨p2, e2⟩ := dSlice_eq hs
      simp only at e2
      subst e2
      simp only [Bool.and_eq_true] at h
      obtain ⟨h1, h2⟩ := h
      split at h2
      · rename_i n hn
        obtain ⟨p3, e3⟩ := dUn_eq hn
        simp only at e3
        subst e3
        split at h2
        · rename_i hc
          have : ∃ k p4, n = .Constant (.int 1) k p4 := by
            unfold dCst at hc
            split at hc <;> first | (cases hc; done) | (cases hc; exact ⟨_, _, rfl⟩)
          obtain ⟨k2, p4, rfl⟩ := this
          refine PE.weak (pe_revL (ha _ h1)) fun σ H Q ⟨env, g, γ, loc, R, q⟩ => ?_
          simp only [evE] at q
          refine seq1 (Rr := fun x H1 => ∃ a xs, x = .ref a ∧ SqL X.K H1 a xs ∧ ∀ p, H1 p = none → Q (.ref p) (upd H1 p (.lst xs.reverse))) R q fun d1 g2 v1 H2 γ2 R2 s2 p1 q2 => ?_
          have o1 := p1.op R2
          cases d1 with
          | lst xs =>
            obtain ⟨l, ys, rfl, e1, r⟩ := o1
            refine ⟨l, ys, rfl, SqL.of e1, fun p hp => ?_⟩
            obtain ⟨R3, s3, nw⟩ := got_fin R2 O.xr (got_lst hp r.reverse)
            exact q2 _ _ γ2 R3 (s2.trans s3 R.cellne) (nw.back s2)
          | _ => exact q2.elim
        · cases h2
      · cases h2
    · cases h
  · cases h
end
end Tv

set_option Elab.async false
set_option linter.all false
set_option maxRecDepth 100000
/-! Soundness of expressions: calls. -/
namespace Tv
open PySem PySem.Spec PyProof.Rows L2

section
variable {S : Se} {X : Cx} {C : Ct} {k : Nat} {W : WX} {e : Expr}

/-- into a callee: what the caller owns stands outside -/
theorem SR.enter {env : Env} {loc : Lc} {γ : List Addr} {H : Hp} {g : G} {σ : L2.St} (R : S.R env g σ H γ loc) : SR S.K S.XR (fun a => S.ext a ∨ ∃ i, loc i = some a) [] [] g [] H γ (fun _ => none) where
  len := rfl
  gl := R.gl
  gnd := R.gnd
  cells := R.cells
  ex := fun a h => by
    rcases h with h | ⟨i, h⟩
    · exact R.ex a h
    · obtain ⟨xs, e⟩ := R.own h
      rw [e]; simp
  slotM := fun i d h => by cases h
  slotN := fun i d _ h => by simp [gt] at h
  live := fun i a h => by cases h
  inj := fun i j a h => by cases h
  apart := fun i a h => by cases h
theorem SR.enterB {env : Env} {loc : Lc} {γ : List Addr} {H : Hp} {g : G} {σ : L2.St} (R : S.R env g σ H γ loc) : SR S.K S.XR S.ext [] [] g [] H γ (fun _ => none) where
  len := rfl
  gl := R.gl
  gnd := R.gnd
  cells := R.cells
  ex := R.ex
  slotM := fun i d h => by cases h
  slotN := fun i d _ h => by simp [gt] at h
  live := fun i a h => by cases h
  inj := fun i j a h => by cases h
  apart := fun i a h => by cases h
/-- back from a callee -/
theorem SR.leave {ext' : Addr → Prop} {env : Env} {loc : Lc} {γ γ' : List Addr} {H H' : Hp} {g g' : G} {σ : L2.St} (R : S.R env g σ H γ loc) (hx : XRok S.XR) (R' : SR S.K S.XR ext' [] [] g' [] H' γ' (fun _ => none)) (n : Next γ H γ' H') : S.R env g' σ H' γ' loc :=
  R.next n hx R'.gl R'.gnd R'.cells
theorem call_pe {fa : Addr} {fd : FuncData} {ps : List Str} {sp : Sp} {x : Str} {p pos : Pos} {xs : List Expr} {es : Ex} (O : XOk S X C k W) (F : FnOk X.prog X.w X.K X.mg X.base (L2.CX X.prog X.w) k fa fd ps sp) (hg : Gl X x) (hm : X.mg x = some (.ref fa)) (hk : PySem.W.keepIn X.K (.ref fa) = true)
    (hb : Binds X.K fd ps []) (hd : (x == ("__debug__" : Str)) = false) (h : mtEs C es xs = true) (ha : PA X xs (tEs S W es)) : PE X (.Call (.Name x p) xs [] pos) (fun σ H Q => tEs S W es σ H fun vs H1 => sp vs H1 Q (WE W σ)) := by
  cases xs with
  | nil =>
    have := mtEs_nil h
    subst this
    refine ⟨fun pins s σ H Q I ⟨env, g, γ, loc, R, q⟩ => ?_⟩
    refine wpAny_Call_Name_kw (ld_glob I hg hm ?_ hd)
    refine PySem.W.callWith_K0 I.kIn hk ?_
    exact run_fnSD (E := WE W) (us := []) (vs := []) (ds := []) (dvs := []) F O.room hb .nil (passAt O.tk σ) I .nil (q [] H γ R .refl rfl fun _ => .nil)
  | cons e es' =>
    have h1 : nice e = true := by
      cases es with
      | cons a r =>
        have h' : mtE C a e = true ∧ mtEs C r es' = true := by simpa [mtEs] using h
        exact nice_of h'.1
      | _ => simp [mtEs] at h
    have h2 : (backTo pos (starEach es' X.env)).any (·.1) = false := by
      cases es with
      | cons a r =>
        have h' : mtE C a e = true ∧ mtEs C r es' = true := by simpa [mtEs] using h
        exact stars_all _ _ h'.2
      | _ => simp [mtEs] at h
    refine PE.weak (pe_callSD (ds := []) (dvs := []) (E := WE W) F O.room hg hm hk hb .nil (fun σ => passAt O.tk σ) ha hd (star_eq h1 _ _) h2) fun σ H Q q => ?_
    show tEs S W es σ H fun vs H1 => sp (vs ++ []) H1 Q (WE W σ)
    simp only [List.append_nil]
    exact q
theorem s_call {n : Nat} {es : Ex} (O : XOk S X C k W) (ha : ∀ xs, mtEs C es xs = true → PA X xs (tEs S W es)) (h : mtE C (.call n es) e = true) : PE X e (tE S W (.call n es)) := by
  simp only [mtE] at h
  split at h
  · rename_i f xs hx
    obtain ⟨p, p2, rfl⟩ := dCall_eq hx
    simp only [Bool.and_eq_true] at h
    obtain ⟨⟨h1, h2⟩, h3⟩ := h
    unfold Ct.isF at h1
    simp only [Bool.and_eq_true, decide_eq_true_eq] at h1
    obtain ⟨g1, g2, g3⟩ := isGl_ok O h1.1.1
    obtain ⟨fa, fd, ps, m1, m2, m3, F, ar⟩ := O.call n f h1.1.2 (by simpa using h1.2)
    refine PE.weak (call_pe O F g1 m1 m2 m3 g2 h2 (ha _ h2)) fun σ H Q ⟨env, g, γ, loc, R, q⟩ => ?_
    simp only [evE] at q
    refine ⟨env, g, γ, loc, R, q.bind.mono (fun ds g1 q1 vs H1 γ1 R1 s1 l n => ?_) fun _ _ x => x⟩
    have r := n h3
    have r' : RpL S.K S.XR (Fp γ1 (fun _ => none) (fun a => S.ext a ∨ ∃ i, loc i = some a)) γ1 H1 ds vs := r.mono (fp_sub fun a z => by
      rcases z with z | ⟨i, z⟩ | z | z
      · exact .inl z
      · cases z
      · exact .inr (.inr z)
      · exact .inr (.inl z))
    have hn : vs.length = ps.length := by
      rw [r.len]
      by_cases z : ds.length = ps.length
      · exact z
      · exfalso
        have q2 := q1
        change Sat (S.T.getD _ stk ds g1) _ _ at q2
        rw [ar ds g1 z] at q2
        exact q2
    refine ⟨_, γ1, g1, ds, hn, SR.enter R1, r', q1.mono (fun d g2 q2 v H2 γ2 R2 nx rp => ?_) fun c g2 q2 H2 γ2 R2 nx => ?_⟩
    · have R3 := SR.leave R1 O.xr R2 nx
      refine q2 v H2 γ2 R3 (s1.trans (nx.ste R1) R.cellne) ?_
      show Rp S.K S.XR _ γ2 H2 d v
      exact rp.mono (fp_sub fun a z => by
        rcases z with z | z | z
        · exact .inl z
        · exact .inr (.inr (.inr z))
        · exact .inr (.inr (.inl z)))
    · exact q2 H2 γ2 (SR.leave R1 O.xr R2 nx) (s1.trans (nx.ste R1) R.cellne)
  · cases h
theorem ValL.rp {env : Env} {loc : Lc} {γ : List Addr} {H : Hp} {g : G} {σ : L2.St} (R : S.R env g σ H γ loc) : ∀ {ds : List D} {vs : List V}, ValL S env loc γ H ds vs → RpL S.K S.XR (Fp γ (fun _ => none) S.ext) γ H ds vs
  | [], _, h => by unfold RpL; exact h
  | d :: ds, vs, ⟨v, r, e, h1, h2⟩ => by
    unfold RpL
    refine ⟨v, r, e, ?_, ValL.rp R h2⟩
    rcases h1 with ⟨i, a, hm, hl, rfl, hd⟩ | h1
    · obtain ⟨a', xs, es, rfl, e2, _, e4, r4⟩ := R.slotM i d hm hd
      rw [hl] at e2; cases e2
      obtain ⟨n1, n2⟩ := R.apart i a hl
      unfold Rp
      refine ⟨a, xs, rfl, ⟨e4, ?_⟩, r4.mono (fp_sub fun b z => ?_)⟩
      · rintro (z | ⟨j, z⟩ | z)
        · exact n1 z
        · cases z
        · exact n2 z
      · rcases z with z | ⟨j, z⟩ | z
        · exact .inl z
        · cases z
        · exact .inr (.inr z)
    · exact h1.mono (fp_sub fun b z => by
        rcases z with z | ⟨j, z⟩ | z
        · exact .inl z
        · cases z
        · exact .inr (.inr z))
theorem s_callb {n : Nat} {es : Ex} (O : XOk S X C k W) (ha : ∀ xs, mtEs C es xs = true → PA X xs (tEs S W es)) (h : mtE C (.callb n es) e = true) : PE X e (tE S W (.callb n es)) := by
  simp only [mtE] at h
  split at h
  · rename_i f xs hx
    obtain ⟨p, p2, rfl⟩ := dCall_eq hx
    simp only [Bool.and_eq_true] at h
    obtain ⟨⟨h1, h2⟩, h3⟩ := h
    unfold Ct.isF at h1
    simp only [Bool.and_eq_true, decide_eq_true_eq] at h1
    obtain ⟨g1, g2, g3⟩ := isGl_ok O h1.1.1
    obtain ⟨fa, fd, ps, m1, m2, m3, F, ar⟩ := O.call n f h1.1.2 (by simpa using h1.2)
    refine PE.weak (call_pe O F g1 m1 m2 m3 g2 h2 (ha _ h2)) fun σ H Q ⟨env, g, γ, loc, R, q⟩ => ?_
    simp only [evE] at q
    refine ⟨env, g, γ, loc, R, q.bind.mono (fun ds g1 q1 vs H1 γ1 R1 s1 l n => ?_) fun _ _ x => x⟩
    have r' := ValL.rp R1 l
    have hn : vs.length = ps.length := by
      rw [r'.len]
      by_cases z : ds.length = ps.length
      · exact z
      · exfalso
        have q2 := q1.bind
        change Sat (S.T.getD _ stk ds g1) _ _ at q2
        rw [ar ds g1 z] at q2
        exact q2
    refine ⟨_, γ1, g1, ds, hn, SR.enterB R1, r', q1.bind.mono (fun d g2 q2 v H2 γ2 R2 nx rp => ?_) fun c g2 q2 H2 γ2 R2 nx => ?_⟩
    · have R3 := SR.leave R1 O.xr R2 nx
      split at q2
      · rename_i hs
        refine q2 v H2 γ2 R3 (s1.trans (nx.ste R1) R.cellne) ?_
        exact rp.scal hs
      · exact q2.elim
    · exact q2 H2 γ2 (SR.leave R1 O.xr R2 nx) (s1.trans (nx.ste R1) R.cellne)
  · cases h
/-- a built-in's call of one argument -/
theorem one_b {o : Bi1} {a : Ex} {f : Str} {p p2 : Pos} {x : Expr} (O : XOk S X C k W) (ha : ∀ e, mtE C a e = true → PE X e (tE S W a)) (h2 : mtE C a x = true) (pe : ∀ t, PA X [x] t → PE X (.Call (.Name f p) [x] [] p2) (tCB (rB1 (X := X) o) t)) (hf : fl (.b1 o a) = .new ∨ ∀ d d', b1D o d = some d' → scal d' = true)
    : PE X (.Call (.Name f p) [x] [] p2) (tE S W (.b1 o a)) := by
  have nx := nice_of h2
  refine PE.weak (pe _ (pa_cons (ha _ h2) pa_nil (star_eq nx _ _))) fun σ H Q ⟨env, g, γ, loc, R, q⟩ => ?_
  simp only [evE] at q
  refine seq1 (Rr := fun v H1 => rB1 (X := X) o [v] H1 Q) R q fun d1 g2 v1 H2 γ2 R2 s2 p1 q2 => ?_
  obtain ⟨d, e1, q3⟩ := q2.okR
  have o1 := p1.opd R2
  rw [O.K] at o1
  refine ⟨S.XR, _, γ2, _, d, _, rfl, o1, e1, fun v H' got => ?_⟩
  rw [← O.K] at got
  obtain ⟨R3, s3, nw⟩ := got_fin R2 O.xr got
  refine q3 v H' γ2 R3 (s2.trans s3 R.cellne) ?_
  have nw' := nw.back s2
  rcases hf with hf | hf
  · rw [hf]; exact nw'
  · have := nw'.rp
    cases hfl : fl (.b1 o a) with
    | any => exact this
    | new => exact nw'
    | bor => cases o <;> cases hfl
end
end Tv

set_option Elab.async false
set_option linter.all false
set_option maxRecDepth 100000
/-! len of an instance whose class has __len__. -/
namespace Tv
open PySem PySem.Spec PyProof.Rows L2
section
variable {prog : Program} {w : World} {A : Around} {E : Value → Shared → Prop} {s : Shared} {K : PySem.W.Frag} {x C f : Addr} {ox : Obj} {odd : Option Obj}
theorem len_own {Q : Value → Shared → Prop} (X : K.In s.heap) (I : PySem.W.InstAt s.heap x ox C odd) (hs : PySem.W.findIn K (.ref C) "__len__" = some (some (.ref f))) (hf : PySem.W.isFn K (.ref f) = true)
    (h : wpAny (model prog w) A.in1 (call (.ref f) [.ref x]) (fun r s₁ => ∃ n u, r = Value.int n u ∧ 0 ≤ n ∧ n < 2 ^ 62 ∧ Q (.int n s₁.toks) { s₁ with toks := s₁.toks + 1 }) E s) : wpAny (model prog w) A (call (.builtin "len") [.ref x]) Q E s := by
  refine Calls.call_function_entry kind_len plain_len entry_len (args_len1 _) ?_
  unfold Builtin.«len»
  refine wpAny_bind (m := oneArg "len" _) (wpAny_pure ?_)
  refine wpAny_bind (m := callSpecial? (.ref x) (PySem.Str.ofString "__len__")) (PySem.W.special_fn X I hs (beq_iff_eq.mp hf) (wpAny_mono h (fun r s' hr => ?_) fun _ _ y => y))
  obtain ⟨n, u, rfl, h0, h1, hq⟩ := hr
  refine wpAny_bind (wpAny_holding (wpAny_pure ?_))
  refine wpAny_bind (wpAny_letGo ?_)
  show wpAny _ _ (if n < 0 then _ else _) _ _ _
  rw [if_neg (by omega)]
  show wpAny _ _ (if n ≥ 2 ^ 63 then _ else _) _ _ _
  rw [if_neg (by omega)]
  exact wpAny_bind (wpAny_mkInt (wpAny_pure ⟨_, rfl, hq⟩))
end
section
variable {X : Cx} {k : Nat} {A f : Addr} {fd : FuncData} {ps : List Str} {sp : Sp}
def rLenR (A : Addr) (sp : Sp) : List V → Hp → VK → Prop := fun xs H Q => ∃ a dx fs, xs = [V.ref a] ∧ H a = some (.ins A dx fs) ∧ sp [.ref a] H (fun z H' => ∃ i, z = .int i ∧ 0 ≤ i ∧ i < 2 ^ 62 ∧ Q z H') (fun _ _ _ => False)
theorem call_lenR (hM : Meth X.K A "__len__" f) (F : FnOk X.prog X.w X.K X.mg X.base (L2.CX X.prog X.w) k f fd ps sp) (hr : Room (k + 1) X.A) (hb : Binds X.K fd ps []) : CallR X (.builtin "len") (rLenR A sp) := by
  intro pins s σ H xs us Q I r h
  obtain ⟨a, dx, fs, rfl, ha, q⟩ := h
  obtain ⟨u, rfl, ru⟩ := vals1 r
  cases (show u = Value.ref a from ru)
  obtain ⟨mA, J, _⟩ := ins_get I.hok ha
  obtain ⟨od, J, _⟩ := J.look
  have hr2 : Room k X.A.in1 := Room.in1 hr
  have r2 : Vals [V.ref a] [Value.ref a] := .cons rfl .nil
  have hl : [Value.ref a].length = ps.length := by rw [← r2.length]; exact F.len _ _ _ _ q
  have b := hb s [Value.ref a] I.kIn (by rw [List.append_nil]; exact hl)
  rw [List.append_nil] at b
  refine len_own I.kIn J hM.at_ hM.fn (wpAny_call (codeAny_mono (F.run X.A.in1 X.stack s H ⟨[.ref a], []⟩ [.ref a] [.ref a] _ _ hr2 I.env0.in1 b r2 q) fun r s' hq => ?_))
  cases r with
  | error e =>
    obtain ⟨_, _, _, _, _, _, _, _, _, _, _, _, z⟩ := hq
    exact z.elim
  | ok fl =>
    cases fl with
    | ret u =>
      obtain ⟨v, H', I', rv, i, rfl, h0, h1, hQ⟩ := I.after hq
      obtain ⟨t, rfl⟩ := rv
      exact ⟨i, t, rfl, h0, h1, .int i, H', I'.tok _, ⟨_, rfl⟩, hQ⟩
    | next => exact False.elim hq
    | brk => exact False.elim hq
    | cont => exact False.elim hq
end
end Tv

set_option Elab.async false
set_option linter.all false
set_option maxRecDepth 100000
/-! Soundness of expressions: the reader's fields and methods; classes of exceptions. -/
namespace Tv
open PySem PySem.Spec PyProof.Rows L2

section
variable {X : Cx} {CX : CXT} {k : Nat} {f : Addr} {fd : FuncData} {ps : List Str} {sp : Sp} {dvs : List V} {ds : List Value} {E : L2.St → XK} {x m : Str} {C : Addr} {p pos apos : Pos} {e o : Expr} {es : List Expr} {ta : TE} {t : TA}
/-- o.m(..), what is raised wished for at the caller's slots -/
def tMethSD (C : Addr) (m : Str) (sp : Sp) (E : L2.St → XK) (ta : TE) (t : TA) : TE := fun σ H Q => ta σ H fun x H1 => ∃ a dx fs, x = .ref a ∧ H1 a = some (.ins C dx fs) ∧ fs.lookup m = none ∧
  t σ H1 fun vs H2 => sp (x :: vs) H2 Q (E σ)
theorem pe_methSD {pl : Sem Bool} (he : PE X o ta) (c : Cls X.K C) (hm : Meth X.K C m f) (F : FnOk X.prog X.w X.K X.mg X.base CX k f fd ps sp) (hr : Room k X.A) (hb : Binds X.K fd ps []) (hx : ∀ σ, PassesAt CX X σ (E σ)) (ha : PA X (e :: es) t)
    (hst : starEach (e :: es) X.env = (false, eval e X.env) :: starEach es X.env := by rfl) (hpl : (backTo pos (starEach es X.env)).any (·.1) = false := by rfl)
    (ht : eval (.Call (.Attribute o m apos) (e :: es) [] pos) X.env = (do
      let ov ← eval o X.env
      standAt apos.atName
      let (f, first) ← holding [ov] (getMethod ov m pl)
      callWith pos f first (backTo pos (starEach (e :: es) X.env)) (backToKw pos (keywordEach [] X.env))) := by rfl) :
    PE X (.Call (.Attribute o m apos) (e :: es) [] pos) (tMethSD C m sp E ta t) := by
  refine ⟨fun pins s σ H Q I h => ?_⟩
  refine PySem.W.methodCall_KW (pl := pl) (thn (he.run pins s σ H _ I h) fun u s1 ⟨x, H1, I1, rx, a, dx, fs, ex, ea, l, q⟩ => ?_) ht
  subst ex
  obtain rfl : u = Value.ref a := rx
  refine getmeth_ok I1 ea c hm l ?_
  refine PySem.W.callWith_K (first := [.ref a]) (h₀ := X.base) I.ok.mod.kin hm.kp (thn (ha.run pos pins s1 σ H1 _ I1 q) fun us s2 ⟨vs, H2, I2, r, q2⟩ => ⟨I2.kIn, ?_⟩) hst hpl
  exact run_fnSD (us := .ref a :: us) (vs := .ref a :: vs) (dvs := []) (ds := []) F hr hb .nil (hx σ) I2 (.cons rfl r) (by rw [List.append_nil]; exact q2)
theorem pe_methSD0 {pl : Sem Bool} (he : PE X o ta) (c : Cls X.K C) (hm : Meth X.K C m f) (F : FnOk X.prog X.w X.K X.mg X.base CX k f fd ps sp) (hr : Room k X.A) (hb : Binds X.K fd ps []) (hx : ∀ σ, PassesAt CX X σ (E σ))
    (ht : eval (.Call (.Attribute o m apos) [] [] pos) X.env = (do
      let ov ← eval o X.env
      standAt apos.atName
      let (f, first) ← holding [ov] (getMethod ov m pl)
      callWith pos f first (backTo pos (starEach [] X.env)) (backToKw pos (keywordEach [] X.env))) := by rfl) :
    PE X (.Call (.Attribute o m apos) [] [] pos) (tMethSD C m sp E ta tNil) := by
  refine ⟨fun pins s σ H Q I h => ?_⟩
  refine PySem.W.methodCall_KW (pl := pl) (thn (he.run pins s σ H _ I h) fun u s1 ⟨x, H1, I1, rx, a, dx, fs, ex, ea, l, q⟩ => ?_) ht
  subst ex
  obtain rfl : u = Value.ref a := rx
  refine getmeth_ok I1 ea c hm l ?_
  exact PySem.W.callWith_K0 (first := [.ref a]) I1.kIn hm.kp (run_fnSD (us := [.ref a]) (vs := [.ref a]) (dvs := []) (ds := []) F hr hb .nil (hx σ) I1 (.cons rfl .nil) q)
/-- C(..) -/
def tMakeSD (C : Addr) (sp : Sp) (E : L2.St → XK) (t : TA) : TE := fun σ H Q => t σ H fun vs H1 => ∀ x dx, H1 x = none → H1 dx = none → dx ≠ x →
  sp (.ref x :: vs) (upd (upd H1 dx (.own x)) x (.ins C dx [])) (fun v H2 => v = .non ∧ Q (.ref x) H2) (E σ)
theorem run_makeSD {pins : List (Addr × Obj)} {σ : L2.St} {H : Hp} {s : Shared} {Q : VK} {us : List Value} {vs : List V} (M : Mk X.K C f) (F : FnOk X.prog X.w X.K X.mg X.base CX k f fd ps sp) (hr : Room (k + 1) X.A) (hb : Binds X.K fd ps [])
    (hx : PassesAt CX X σ (E σ)) (I : Inv X pins σ H s) (r : Vals vs us)
    (h : ∀ x dx, H x = none → H dx = none → dx ≠ x → sp (.ref x :: vs) (upd (upd H dx (.own x)) x (.ins C dx [])) (fun v H2 => v = .non ∧ Q (.ref x) H2) (E σ)) :
    wpAny (model X.prog X.w) X.A (call (.ref C) us) (EP X pins σ Q) X.xe s := by
  have hq := h (s.heap.objs.size + 1) s.heap.objs.size (I.hok.fresh (Nat.le_succ _)) (I.hok.fresh (Nat.le_refl _)) (Nat.ne_of_lt (Nat.lt_succ_self _))
  have I2 := Inv.made (C := C) I
  have r2 : Vals (V.ref (s.heap.objs.size + 1) :: vs) (Value.ref (s.heap.objs.size + 1) :: us) := .cons rfl r
  have hl : (Value.ref (s.heap.objs.size + 1) :: us).length = ps.length := by
    have e := r2.length
    rw [F.len _ _ _ _ hq] at e
    exact e.symm
  have b := hb _ (Value.ref (s.heap.objs.size + 1) :: us) I2.kIn (by rw [List.append_nil]; exact hl)
  rw [List.append_nil] at b
  refine wpAny_call (make_map (f := f) I.kIn M.makes M.init (beq_iff_eq.mp M.fn) (codeAny_mono (F.run _ X.stack _ _ ⟨Value.ref (s.heap.objs.size + 1) :: us, []⟩ (Value.ref (s.heap.objs.size + 1) :: us) _ _ (E σ) (hr.make C us [])
    (I2.env0.make C us []) b r2 hq) fun r s' hq' => ?_))
  cases r with
  | error e => exact hx pins _ _ e s' I2 hq'
  | ok fl =>
    cases fl with
    | ret u =>
      obtain ⟨v, H', I3, rv, ev, q3⟩ := I2.after hq'
      subst ev
      exact ⟨rv, ⟨V.ref (s.heap.objs.size + 1), H', I3, rfl, q3⟩⟩
    | next => exact False.elim hq'
    | brk => exact False.elim hq'
    | cont => exact False.elim hq'
theorem pe_makeSD (M : Mk X.K C f) (F : FnOk X.prog X.w X.K X.mg X.base CX k f fd ps sp) (hr : Room (k + 1) X.A) (hg : Gl X x) (hm : X.mg x = some (.ref C)) (hb : Binds X.K fd ps []) (hx : ∀ σ, PassesAt CX X σ (E σ))
    (ha : PA X (e :: es) t) (hdb : (x == ("__debug__" : Str)) = false := by decide) (he : starEach (e :: es) X.env = (false, eval e X.env) :: starEach es X.env := by rfl) (hpl : (backTo pos (starEach es X.env)).any (·.1) = false := by rfl) :
    PE X (.Call (.Name x p) (e :: es) [] pos) (tMakeSD C sp E t) := by
  refine ⟨fun pins s σ H Q I h => ?_⟩
  refine wpAny_Call_Name_kw (ld_glob I hg hm ?_ hdb)
  refine PySem.W.callWith_K (h₀ := X.base) I.ok.mod.kin M.kp (thn (ha.run pos pins s σ H _ I h) fun us s1 ⟨vs, H1, I1, r, q⟩ => ⟨I1.kIn, ?_⟩) he hpl
  exact run_makeSD M F hr hb (hx σ) I1 r q
end

theorem bt_isi0 : bootBuiltins "isinstance" = some (.builtin "isinstance") := by decide +kernel
section
variable {S : Se} {X : Cx} {C : Ct} {k : Nat} {W : WX} {e : Expr}
/-- a reader at hand -/
theorem ins_at {env : Env} {g : G} {σ : L2.St} {H : Hp} {γ : List Addr} {loc : Lc} {fs : List D} {v : V} (O : XOk S X C k W) (R : S.R env g σ H γ loc) (h : Val S env loc γ H (.ins fs) v) :
    ∃ a A dx x0 x1 x2, v = .ref a ∧ S.cv 100 = .ref A ∧ H a = some (.ins A dx [("lists", x0), ("depths", x1), ("made", x2)]) ∧ RpL S.K S.XR (Fp γ loc S.ext) γ H fs [x0, x1, x2] ∧ Rp S.K S.XR (Fp γ loc S.ext) γ H (.ins fs) v := by
  have o := h.op R
  unfold OpV at o
  have o' := o
  unfold Rp at o
  obtain ⟨a, A, dx, x0, x1, x2, rfl, xr, hH, r⟩ := o
  obtain ⟨A', dx', fs', c, hH'⟩ := O.rd a H xr
  rw [hH] at hH'
  cases hH'
  exact ⟨a, A, dx, x0, x1, x2, rfl, c, hH, r, o'⟩
theorem s_fld {a : Ex} {i : Nat} (O : XOk S X C k W) (ha : ∀ e, mtE C a e = true → PE X e (tE S W a)) (h : mtE C (.fld a i) e = true) : PE X e (tE S W (.fld a i)) := by
  simp only [mtE] at h
  split at h
  · rename_i x f hx
    obtain ⟨p, rfl⟩ := dAttr_eq hx
    simp only [Bool.and_eq_true, decide_eq_true_eq] at h
    obtain ⟨⟨⟨h1, h2⟩, h3⟩, h4⟩ := h
    have hb : attributeBase x f X.env (eval x X.env) = eval x X.env := by
      cases x <;> first | rfl | cases h3
    refine PE.weak (pe_fld (ha _ h2) hb) fun σ H Q ⟨env, g, γ, loc, R, q⟩ => ?_
    simp only [evE] at q
    refine seq1 (Rr := fun x H1 => ∃ a C dx fs v, x = .ref a ∧ H1 a = some (.ins C dx fs) ∧ Cls X.K C ∧ NoAttr X.K C f ∧ fs.lookup f = some v ∧ Q v H1) R q fun d1 g2 v1 H2 γ2 R2 s2 p1 q2 => ?_
    cases d1 with
    | ins fs =>
      obtain ⟨a, A, dx, x0, x1, x2, rfl, c, hH, r, _⟩ := ins_at O R2 p1
      obtain ⟨A', c', hC, hN⟩ := O.fld h4
      rw [c] at c'; cases c'
      obtain ⟨d, e1, q3⟩ := Sat.okR q2
      obtain ⟨w, e2, rw2⟩ := r.get e1
      have hl : ([("lists", x0), ("depths", x1), ("made", x2)] : List (Str × V)).lookup f = some w := by
        match i, h1, e2 with
        | 0, h1, e2 => cases h1; cases e2; rfl
        | 1, h1, e2 => cases h1; cases e2; rfl
        | 2, h1, e2 => cases h1; cases e2; rfl
        | n + 3, h1, e2 => simp at e2
      exact ⟨a, A, dx, _, w, rfl, hH, hC, hN f (List.mem_of_getElem? h1), hl, q3 w H2 γ2 R2 s2 rw2⟩
    | _ => exact q2.elim
  · cases h
theorem s_isX {a : Ex} {c : Nat} (O : XOk S X C k W) (ha : ∀ e, mtE C a e = true → PE X e (tE S W a)) (h : mtE C (.isX c a) e = true) : PE X e (tE S W (.isX c a)) := by
  simp only [mtE] at h
  split at h
  · rename_i f x y hx
    obtain ⟨p, p2, rfl⟩ := dCall_eq hx
    simp only [Bool.and_eq_true] at h
    obtain ⟨⟨⟨h1, h2⟩, ht⟩, h3⟩ := h
    have T := O.tr ht
    obtain ⟨ef, b1, b2, b3, b4⟩ := isB_ok O h1
    subst ef
    have nx := nice_of h2
    -- the class named
    obtain ⟨cv, cu, hv, py⟩ : ∃ (cv : V) (cu : Value), (∀ k, k < 6 → PySem.W.kitOne X.K (S.cv k) cu = some (exSub k c)) ∧ PE X y (tC cv) ∧ (∀ u, RelV cv u → u = cu) ∧ nice y = true := by
      split at h3
      · rename_i n hn
        obtain ⟨p3, rfl⟩ := dName_eq hn
        rcases Bool.or_eq_true_iff.mp h3 with h3 | h5
        · simp only [Bool.and_eq_true, decide_eq_true_eq] at h3
          obtain ⟨g1, g2, g3⟩ := isGl_ok O h3.1
          obtain ⟨Dc, m1, m2⟩ := T.isc c n h3.2
          exact ⟨.ref Dc, .ref Dc, m2, pe_glob g1 m1 rfl g2, fun u z => z, rfl⟩
        · simp only [Bool.and_eq_true, decide_eq_true_eq] at h5
          obtain ⟨hc7, h5⟩ := h5
          subst hc7
          obtain ⟨eg, c1, c2, c3, c4⟩ := isB_ok O h5
          subst eg
          refine ⟨.ty "ValueError", .type "ValueError", fun k hk => ?_, pe_bltn (v := .ty "ValueError") c1 c2 (by decide +kernel) rfl c4 c3, fun u z => z, rfl⟩
          rw [T.isv k hk]
          simp [exSub]
      · cases h3
    obtain ⟨py, hu, ny⟩ := py
    refine PE.weak (pe_callB call_isK b1 b2 bt_isi0 (pa_cons (ha _ h2) (pa_cons py pa_nil (star_eq ny _ _)) (star_eq nx _ _)) b4 b3 (star_eq nx _ _) (by rw [star_eq ny] <;> rfl)) fun σ H Q ⟨env, g, γ, loc, R, q⟩ => ?_
    simp only [evE] at q
    refine seq1 (Rr := fun v H1 => rIsK X.K [v, cv] H1 Q) R q fun d1 g2 v1 H2 γ2 R2 s2 p1 q2 => ?_
    cases d1 with
    | exc k =>
      simp only at q2
      split at q2
      · rename_i hk
        have o := p1.op R2
        unfold OpV Rp at o
        obtain ⟨a, rfl, xr⟩ := o
        have hH := (T.xr k a H2 hk).mp xr
        obtain ⟨D, e1, hC⟩ := T.isx k hk
        rw [e1] at hH
        exact ⟨a, D, cv, cu, _, rfl, hH, hC, hu, by rw [← e1]; exact hv k hk, q2 _ H2 γ2 R2 s2 pst_bl⟩
      · exact q2.elim
    | _ => exact q2.elim
  · cases h
theorem lk_none {m : Str} {x0 x1 x2 : V} (h : rdF.contains m = false) : ([("lists", x0), ("depths", x1), ("made", x2)] : List (Str × V)).lookup m = none := by
  simp only [rdF, List.contains_cons, List.contains_nil, Bool.or_false, Bool.or_eq_false_iff] at h
  obtain ⟨h1, h2, h3⟩ := h
  simp [List.lookup, h1, h2, h3]
theorem any_all {α : Type} {l : List (Bool × α)} (h : l.any (·.1) = false) : l.all (fun x => !x.1) = true := by
  induction l with
  | nil => rfl
  | cons a r ih =>
    simp only [List.any_cons, Bool.or_eq_false_iff] at h
    simp only [List.all_cons, Bool.and_eq_true, Bool.not_eq_true']
    exact ⟨h.1, ih h.2⟩
theorem meth_eval {xn m : Str} {xp apos pos : Pos} {args : List Expr} {env : PySem.Env} (h1 : (backTo pos (starEach args env)).any (·.1) = false) (h2 : args.length < 20) (h3 : (apos.endLine == pos.line) = true) :
    eval (.Call (.Attribute (.Name xn xp) m apos) args [] pos) env = (do
      let ov ← eval (.Name xn xp) env
      standAt apos.atName
      let (f, first) ← holding [ov] (getMethod ov m (do return (← importBound (.Name xn xp) env).getD true))
      callWith pos f first (backTo pos (starEach args env)) (backToKw pos (keywordEach [] env))) := by
  have hf : methodCallForm (args.length + ([] : List Keyword).length) (backTo pos (starEach args env)) (backToKw pos (keywordEach [] env)) = true := by
    unfold methodCallForm
    rw [any_all h1]
    simp only [List.length_nil]
    have : decide (args.length + 0 + (if (backToKw pos (keywordEach [] env)).isEmpty = true then 0 else 1) < 30) = true := by
      refine decide_eq_true ?_
      split <;> omega
    rw [this]; rfl
  rw [arm_eval_Call]
  show (do
    let ov ← eval (.Name xn xp) env
    standAt apos.atName
    methodCall (.Name xn xp) m apos pos env ov (args.length + ([] : List Keyword).length) (backTo pos (starEach args env)) (backToKw pos (keywordEach [] env))) = _
  unfold methodCall
  rw [hf]
  unfold calleeOf methodCallPos
  rw [h3]
  rfl
theorem s_mcall {n : Nat} {a es : Ex} (O : XOk S X C k W) (ha : ∀ e, mtE C a e = true → PE X e (tE S W a)) (hes : ∀ xs, mtEs C es xs = true → PA X xs (tEs S W es)) (h : mtE C (.mcall n a es) e = true) : PE X e (tE S W (.mcall n a es)) := by
  simp only [mtE] at h
  split at h
  · rename_i x m xs hx
    obtain ⟨p, p2, rfl, hl⟩ := dMeth_eq hx
    simp only [Bool.and_eq_true] at h
    obtain ⟨⟨⟨⟨⟨h1, h2⟩, h3⟩, h4⟩, h5⟩, h8⟩ := h
    have h8 : xs.length < 20 := by simpa using h8
    obtain ⟨j, A, fa, fd, ps, hj, c, hC, hM, hB, hnc, F, ar⟩ := O.meth n m (by simpa using h1)
    have room := O.room.mono (Nat.le_trans (Nat.le_succ j) hj)
    obtain ⟨xn, xp, rfl⟩ : ∃ xn xp, x = .Name xn xp := by
      cases x <;> first | exact ⟨_, _, rfl⟩ | cases h5
    have pe : PE X (.Call (.Attribute (.Name xn xp) m p) xs [] p2) (tMethSD A m (spF S.K S.XR S.cv ps.length (S.T.getD n stk)) (WE W) (tE S W a) (tEs S W es)) := by
      cases xs with
      | nil =>
        have := mtEs_nil h3
        subst this
        refine PE.weak (pe_methSD0 (ha _ h2) hC hM F room hB (fun σ => passAt O.tk σ) (meth_eval rfl (by decide) hl)) fun σ H Q ⟨env, g, γ, loc, R, q⟩ => ?_
        refine ⟨env, g, γ, loc, R, q.mono (fun d1 g1 q1 v1 H1 γ1 R1 s1 p1 => ?_) fun _ _ x => x⟩
        obtain ⟨ad, dx, fs, e1, e2, e3, env', g', γ', loc', R', q2⟩ := q1 v1 H1 γ1 R1 s1 p1
        exact ⟨ad, dx, fs, e1, e2, e3, q2 [] H1 γ' R' .refl rfl fun _ => .nil⟩
      | cons e0 es' =>
        have h6 : nice e0 = true := by
          cases es with
          | cons a r =>
            have h' : mtE C a e0 = true ∧ mtEs C r es' = true := by simpa [mtEs] using h3
            exact nice_of h'.1
          | _ => simp [mtEs] at h3
        have h7 : (backTo p2 (starEach es' X.env)).any (·.1) = false := by
          cases es with
          | cons a r =>
            have h' : mtE C a e0 = true ∧ mtEs C r es' = true := by simpa [mtEs] using h3
            exact stars_all _ _ h'.2
          | _ => simp [mtEs] at h3
        exact pe_methSD (ha _ h2) hC hM F room hB (fun σ => passAt O.tk σ) (hes _ h3) (star_eq h6 _ _) h7 (meth_eval (by rw [star_eq h6]; show (false || _) = false; rw [Bool.false_or]; exact h7) h8 hl)
    refine PE.weak pe fun σ H Q ⟨env, g, γ, loc, R, q⟩ => ?_
    simp only [evE] at q
    refine ⟨env, g, γ, loc, R, q.bind.mono (fun d1 g1 q1 v1 H1 γ1 R1 s1 p1 => ?_) fun _ _ x => x⟩
    cases d1 with
    | ins fs =>
      have w1 := p1.val
      obtain ⟨ad, A', dx, x0, x1, x2, rfl, c', hH, _, _⟩ := ins_at O R1 w1
      rw [c] at c'; cases c'
      refine ⟨ad, dx, _, rfl, hH, lk_none hnc, ?_⟩
      refine ⟨env, g1, γ1, loc, R1, q1.bind.mono (fun ds g2 q2 vs H2 γ2 R2 s2 l n2 => ?_) fun c g' => Er.trans R s1⟩
      have r := n2 h4
      have rv : Rp S.K S.XR (Fp γ2 loc S.ext) γ2 H2 (.ins fs) (.ref ad) := (w1.step s2 R1 O.xr).op R2
      have rr : RpL S.K S.XR (Fp γ2 loc S.ext) γ2 H2 (.ins fs :: ds) (.ref ad :: vs) := .cons rv r
      have r' : RpL S.K S.XR (Fp γ2 (fun _ => none) (fun a => S.ext a ∨ ∃ i, loc i = some a)) γ2 H2 (.ins fs :: ds) (.ref ad :: vs) := rr.mono (fp_sub fun a z => by
        rcases z with z | ⟨i, z⟩ | z | z
        · exact .inl z
        · cases z
        · exact .inr (.inr z)
        · exact .inr (.inl z))
      have hn : (V.ref ad :: vs).length = ps.length := by
        rw [rr.len]
        by_cases z : (D.ins fs :: ds).length = ps.length
        · exact z
        · exfalso
          have q3 := q2
          change Sat (S.T.getD _ stk (.ins fs :: ds) g2) _ _ at q3
          rw [ar _ g2 z] at q3
          exact q3
      have s12 := s1.trans s2 R.cellne
      refine ⟨_, γ2, g2, .ins fs :: ds, hn, SR.enter R2, r', q2.mono (fun d g3 q3 v H3 γ3 R3 nx rp => ?_) fun c g3 q3 H3 γ3 R3 nx => ?_⟩
      · have R4 := SR.leave R2 O.xr R3 nx
        refine q3 v H3 γ3 R4 (s12.trans (nx.ste R2) R.cellne) ?_
        show Rp S.K S.XR _ γ3 H3 d v
        exact rp.mono (fp_sub fun a z => by
          rcases z with z | z | z
          · exact .inl z
          · exact .inr (.inr (.inr z))
          · exact .inr (.inr (.inl z)))
      · exact q3 H3 γ3 (SR.leave R2 O.xr R3 nx) (s12.trans (nx.ste R2) R.cellne)
    | _ => exact q1.elim
  · cases h
theorem s_make {n : Nat} {es : Ex} (O : XOk S X C k W) (hes : ∀ xs, mtEs C es xs = true → PA X xs (tEs S W es)) (h : mtE C (.make n es) e = true) : PE X e (tE S W (.make n es)) := by
  simp only [mtE] at h
  split at h
  · rename_i f xs hx
    obtain ⟨p, p2, rfl⟩ := dCall_eq hx
    simp only [Bool.and_eq_true, decide_eq_true_eq] at h
    obtain ⟨⟨⟨⟨h1, h2⟩, h3⟩, h4⟩, h5⟩ := h
    obtain ⟨g1, g2, g3⟩ := isGl_ok O h2
    obtain ⟨j, A, fi, fd, ps, hj, hm, M, hB, F⟩ := O.make n f (by simpa using h1)
    cases xs with
    | nil => cases h5
    | cons e0 es' =>
      have h6 : nice e0 = true := by
        cases es with
        | cons a r =>
          have h' : mtE C a e0 = true ∧ mtEs C r es' = true := by simpa [mtEs] using h3
          exact nice_of h'.1
        | _ => simp [mtEs] at h3
      have h7 : (backTo p2 (starEach es' X.env)).any (·.1) = false := by
        cases es with
        | cons a r =>
          have h' : mtE C a e0 = true ∧ mtEs C r es' = true := by simpa [mtEs] using h3
          exact stars_all _ _ h'.2
        | _ => simp [mtEs] at h3
      refine PE.weak (pe_makeSD (E := WE W) M F (O.room.mono hj) g1 hm hB (fun σ => passAt O.tk σ) (hes _ h3) g2 (star_eq h6 _ _) h7) fun σ H Q ⟨env, g, γ, loc, R, q⟩ => ?_
      simp only [evE] at q
      cases e1 : evEs S.T es env g with
      | stuck => rw [e1] at q; exact q.elim
      | err c g' => rw [e1] at q; exact ⟨env, g, γ, loc, R, by rw [e1]; exact q⟩
      | ok ds g1 =>
      rw [e1] at q
      have hds := mtEs_len _ h3 e1
      have q1 : Sat ((S.T.getD n fun _ _ => .stuck) ds g1) _ _ := q
      refine ⟨env, g, γ, loc, R, ?_⟩
      rw [e1]
      intro vs H1 γ1 R1 s1 l n1
      intro x dx nx ndx ne
      have r := n1 h4
      have r' : RpL S.K S.XR (Fp γ1 (fun _ => none) (fun a => S.ext a ∨ ∃ i, loc i = some a)) γ1 H1 ds vs := r.mono (fp_sub fun a z => by
        rcases z with z | ⟨i, z⟩ | z | z
        · exact .inl z
        · cases z
        · exact .inr (.inr z)
        · exact .inr (.inl z))
      have hl : vs.length = 2 := by
        rw [r.len, hds]
        exact h5
      refine ⟨x, dx, H1, _, γ1, g1, ds, vs, rfl, hl, nx, ndx, ne, rfl, SR.enter R1, r', q1.mono (fun d g2 q2 H2 γ2 R2 nx2 rp => ?_) fun c g2 q2 H2 γ2 R2 nx2 => ?_⟩
      · have R3 := SR.leave R1 O.xr R2 nx2
        refine ⟨rfl, q2 _ H2 γ2 R3 (s1.trans (nx2.ste R1) R.cellne) ?_⟩
        show Rp S.K S.XR _ γ2 H2 d _
        exact rp.mono (fp_sub fun a z => by
          rcases z with z | z | z
          · exact .inl z
          · exact .inr (.inr (.inr z))
          · exact .inr (.inr (.inl z)))
      · exact q2 H2 γ2 (SR.leave R1 O.xr R2 nx2) (s1.trans (nx2.ste R1) R.cellne)
  · cases h
/-- a cell is written: what stays -/
theorem cell_mono {env : Env} {g : G} {σ : L2.St} {H : Hp} {γ : List Addr} {loc : Lc} {a : Addr} {vs : List V} (R : S.R env g σ H γ loc) (hx : XRok S.XR) (am : a ∈ γ) : Mono S.XR (Fp γ loc S.ext) γ H (Fp γ loc S.ext) γ (upd H a (.lst vs)) := by
  obtain ⟨ys, ep⟩ := R.cell am
  refine ⟨fun b xs e f => ⟨?_, f⟩, fun b o ho e => ?_, List.prefix_refl _, fun c b h => hx c b H h _ fun b hb o e => ?_⟩
  · rw [upd_ne (fun (z : b = a) => f (.inl (z ▸ am)))]; exact e
  · rw [upd_ne (fun (z : b = a) => by rw [z, ep] at e; cases e; exact ho _ rfl)]; exact e
  · rw [upd_ne (fun (z : b = a) => hb ys (z ▸ ep))]; exact e
/-- a cell is written -/
theorem SR.cellset {env : Env} {g : G} {σ : L2.St} {H : Hp} {γ : List Addr} {loc : Lc} {n : Nat} {a : Addr} {vs : List V} {ds es : List Tv.D} (R : S.R env g σ H γ loc) (hx : XRok S.XR) (ha : γ[n]? = some a) (hg : g[n]? = some (.lst es)) (nl : nolistL ds = true) (r : RpL S.K S.XR F0 γ H ds vs) :
    S.R env (g.set n (.lst ds)) σ (upd H a (.lst vs)) γ loc ∧ StE γ loc H γ (upd H a (.lst vs)) := by
  have am : a ∈ γ := List.mem_of_getElem? ha
  obtain ⟨ys, ep⟩ := R.cell am
  have m : Mono S.XR (Fp γ loc S.ext) γ H (Fp γ loc S.ext) γ (upd H a (.lst vs)) := cell_mono R hx am
  have stay : ∀ {fs xs}, nolistL fs = true → RpL S.K S.XR F0 γ H fs xs → RpL S.K S.XR F0 γ (upd H a (.lst vs)) fs xs := fun nl r => RpL.F0 nl ((r.nol (F' := Fp γ loc S.ext) _ _ nl).mono m)
  refine ⟨{ len := R.len, gl := by rw [List.length_set]; exact R.gl, gnd := R.gnd, cells := ?_, ex := ?_, slotM := ?_, slotN := ?_, live := R.live, inj := R.inj, apart := R.apart }, ?_⟩
  · intro j b c e1 e2
    by_cases hj : n = j
    · subst hj
      rw [ha] at e1; cases e1
      rw [List.getElem?_set_self (List.getElem?_eq_some_iff.mp hg).1] at e2
      cases e2
      exact ⟨nl, vs, upd_same, stay nl r⟩
    · rw [List.getElem?_set_ne hj] at e2
      have q := R.cells j b c e1 e2
      cases c with
      | ins _ _ => exact q.elim
      | lst fs =>
        obtain ⟨nl3, xs, e3, r3⟩ := q
        refine ⟨nl3, xs, ?_, stay nl3 r3⟩
        rw [upd_ne (fun (z : b = a) => ?_)]
        · exact e3
        · subst z
          exact hj (nd_ix R.gnd ha e1)
  · intro b h
    by_cases z : b = a
    · subst z; rw [upd_same]; simp
    · rw [upd_ne z]; exact R.ex b h
  · intro j d hj hd
    obtain ⟨b, xs, fs, e1, e2, e3, e4, r4⟩ := R.slotM j d hj hd
    refine ⟨b, xs, fs, e1, e2, e3, ?_, r4.mono m⟩
    rw [upd_ne (fun (z : b = a) => (R.apart j b e2).1 (z ▸ am))]; exact e4
  · intro j d hj hd
    obtain ⟨v, e1, r1⟩ := R.slotN j d hj hd
    exact ⟨v, e1, r1.mono m⟩
  · refine ⟨⟨fun b o h1 h2 e => ?_, fun b h => ?_, List.prefix_refl _, fun b h => .inl h, fun j b h => .inl ⟨j, h⟩⟩, fun i b h => ?_⟩
    · rw [upd_ne (fun (z : b = a) => h1 (z ▸ am))]; exact e
    · by_cases z : b = a
      · subst z; rw [upd_same]; simp
      · rw [upd_ne z]; exact h
    · rw [upd_ne (fun (z : b = a) => (R.apart i b h).1 (z ▸ am))]
theorem nolistL_take : ∀ {xs : List Tv.D} (n : Nat), nolistL xs = true → nolistL (xs.take n) = true
  | _, 0, _ => by simp [nolistL]
  | [], n + 1, _ => by simp [nolistL]
  | x :: r, n + 1, h => by
    have h' : nolist x = true ∧ nolistL r = true := by simpa [nolistL] using h
    simp [nolistL, h'.1, nolistL_take n h'.2]
theorem nolistL_get : ∀ {xs : List Tv.D} {n : Nat} {d : Tv.D}, nolistL xs = true → xs[n]? = some d → nolist d = true
  | [], _, _, _, e => by simp at e
  | x :: r, 0, d, h, e => by
    have h' : nolist x = true ∧ nolistL r = true := by simpa [nolistL] using h
    simp at e; subst e; exact h'.1
  | x :: r, n + 1, d, h, e => by
    have h' : nolist x = true ∧ nolistL r = true := by simpa [nolistL] using h
    exact nolistL_get h'.2 (by simpa using e)
theorem recv_eq {o : Expr} (h : recvOk o = true) (m : Str) (env : PySem.Env) : attributeBase o m env (eval o env) = eval o env := by
  unfold recvOk at h
  split at h <;> first | rfl | cases h
theorem s_popc {a : Ex} (O : XOk S X C k W) (ha : ∀ e, mtE C a e = true → PE X e (tE S W a)) (h : mtE C (.popc a) e = true) : PE X e (tE S W (.popc a)) := by
  simp only [mtE] at h
  split at h
  · rename_i x m hx
    obtain ⟨p, p2, rfl, hl⟩ := dMeth_eq hx
    simp only [Bool.and_eq_true] at h
    obtain ⟨⟨h1, h2⟩, h3⟩ := h
    have em : m = "pop" := by simpa using h1
    subst em
    refine PE.weak (pe_bm0 PySem.F.plainAttrs_list PySem.F.slot_list_pop PySem.F.type_list_pop mt_pop (ha _ h2) (recv_eq h3 _ _) hl) fun σ H Q ⟨env, g, γ, loc, R, q⟩ => ?_
    simp only [evE] at q
    refine seq1 (Rr := fun x H1 => tyV X.K "list" x H1 ∧ rPop x [] H1 Q) R q fun d1 g2 v1 H2 γ2 R2 s2 p1 q2 => ?_
    cases d1 with
    | cell n =>
      have o := p1.op R2
      unfold OpV Rp at o
      obtain ⟨b, rfl, hb⟩ := o
      simp only at q2
      cases hg : g2[n]? with
      | none => rw [hg] at q2; exact q2.elim
      | some cl =>
        rw [hg] at q2
        cases cl with
        | ins _ _ => exact q2.elim
        | lst xs =>
          simp only at q2
          obtain ⟨nl, ys, e5, r5⟩ := R2.cells n b _ hb hg
          cases hd : xs[xs.length - 1]? with
          | none => rw [hd] at q2; exact q2.elim
          | some d =>
            rw [hd] at q2
            obtain ⟨w, e6, rw6⟩ := r5.get hd
            refine ⟨.inl ⟨rfl, _, SqL.of e5⟩, b, ys, w, rfl, rfl, e5, by rw [r5.len]; exact e6, ?_⟩
            have ed : ∀ {α : Type} (l : List α), l.dropLast = l.take (l.length - 1) := fun l => List.dropLast_eq_take
            have r7 : RpL S.K S.XR F0 γ2 H2 xs.dropLast ys.dropLast := by
              rw [ed, ed, r5.len]
              exact r5.take _
            obtain ⟨R3, s3⟩ := SR.cellset R2 O.xr hb hg (by rw [ed]; exact nolistL_take _ nl) r7
            refine q2 w _ γ2 R3 (s2.trans s3 R.cellne) ?_
            have am : b ∈ γ2 := List.mem_of_getElem? hb
            exact (rw6.nol (F' := Fp γ2 loc S.ext) _ _ (nolistL_get nl hd)).mono (cell_mono R2 O.xr am)
    | _ => exact q2.elim
  · cases h
theorem bt_len0 : bootBuiltins "len" = some (.builtin "len") := by decide +kernel
theorem s_lenr {n : Nat} {a : Ex} (O : XOk S X C k W) (ha : ∀ e, mtE C a e = true → PE X e (tE S W a)) (h : mtE C (.lenr n a) e = true) : PE X e (tE S W (.lenr n a)) := by
  simp only [mtE] at h
  split at h
  · rename_i f x hx
    obtain ⟨p, p2, rfl⟩ := dCall_eq hx
    simp only [Bool.and_eq_true] at h
    obtain ⟨⟨h1, h2⟩, h3⟩ := h
    obtain ⟨ef, b1, b2, b3, b4⟩ := isB_ok O h1
    subst ef
    have nx := nice_of h3
    obtain ⟨j, A, fa, fd, ps, hj, c, hC, hM, hB, hnc, F, ar⟩ := O.meth n "__len__" (by simpa using h2)
    refine PE.weak (pe_callB (call_lenR hM F (O.room.mono hj) hB) b1 b2 bt_len0 (pa_cons (ha _ h3) pa_nil (star_eq nx _ _)) b4 b3 (star_eq nx _ _) rfl) fun σ H Q ⟨env, g, γ, loc, R, q⟩ => ?_
    simp only [evE] at q
    refine seq1 (Rr := fun v H1 => rLenR A (spF S.K S.XR S.cv ps.length (S.T.getD n stk)) [v] H1 Q) R q fun d1 g2 v1 H2 γ2 R2 s2 p1 q2 => ?_
    cases d1 with
    | ins fs =>
      obtain ⟨ad, A', dx, x0, x1, x2, rfl, c', hH, _, rv⟩ := ins_at O R2 p1
      rw [c] at c'; cases c'
      change Sat ((nox ((S.T.getD n stk) [.ins fs] g2)).bind _) _ _ at q2
      cases e1 : (S.T.getD n stk) [.ins fs] g2 with
      | err c g => rw [e1] at q2; exact q2.elim
      | stuck => rw [e1] at q2; exact q2.elim
      | ok d g3 =>
      rw [e1] at q2
      have r' : RpL S.K S.XR (Fp γ2 (fun _ => none) (fun a => S.ext a ∨ ∃ i, loc i = some a)) γ2 H2 [.ins fs] [.ref ad] := (RpL.cons rv .nil).mono (fp_sub fun a z => by
        rcases z with z | ⟨i, z⟩ | z | z
        · exact .inl z
        · cases z
        · exact .inr (.inr z)
        · exact .inr (.inl z))
      have hn : [V.ref ad].length = ps.length := by
        by_cases z : [D.ins fs].length = ps.length
        · exact z
        · exfalso
          rw [ar _ g2 z] at e1
          cases e1
      refine ⟨ad, dx, _, rfl, hH, _, γ2, g2, [.ins fs], hn, SR.enter R2, r', ?_⟩
      rw [e1]
      intro v H3 γ3 R3 nx3 rp
      have R4 := SR.leave R2 O.xr R3 nx3
      cases d with
      | int i =>
        have q3 : Sat (if 0 ≤ i ∧ i < 2 ^ 62 then Res.ok (D.int i) g3 else .stuck) _ _ := q2
        split at q3
        · rename_i hi
          unfold Rp at rp
          subst rp
          exact ⟨i, rfl, hi.1, hi.2, q3 _ H3 γ3 R4 (s2.trans (nx3.ste R2) R.cellne) pst_int⟩
        · exact q3.elim
      | _ => exact q2.elim
    | _ => exact q2.elim
  · cases h
end
end Tv

set_option Elab.async false
set_option linter.all false
set_option maxRecDepth 100000
/-! A set of a list's items, of any kind of key; its size. -/
namespace Tv
open PySem PySem.Spec PyProof.Rows L2

theorem dd_snoc {α : Type} [DecidableEq α] : ∀ (l acc : List α) (x : α), dd acc (l ++ [x]) = if x ∈ dd acc l then dd acc l else dd acc l ++ [x]
  | [], acc, x => by by_cases z : x ∈ acc <;> simp [dd, z]
  | y :: l, acc, x => by
    simp only [List.cons_append, dd]
    exact dd_snoc l _ x
theorem dd_le {α : Type} [DecidableEq α] : ∀ (l acc : List α), (dd acc l).length ≤ acc.length + l.length
  | [], acc => by simp [dd]
  | y :: l, acc => by
    unfold dd
    refine Nat.le_trans (dd_le l _) ?_
    split <;> simp <;> omega
section
variable {prog : Program} {w : World} {A : Around} {KT : Type} [DecidableEq KT] [BEq KT] [LawfulBEq KT] {knd : KeyKind prog w KT} {R : Result → Shared → Prop} {I : Addr} {fp wr : List Addr} {G : Array GenState → Array GenState → Prop} {n : Nat} {Pv : Nat → Value → Prop} {Sv : Nat → Shared → Prop}
theorem set_turns (W : WalksS prog w A.in1 I fp wr G n Pv Sv) (Z : Addr) (hZ : Z ∉ fp) (ks : List KT) (hsz : ks.length = n) (hn : n ≤ 1000)
    (hv : ∀ i v, Pv i v → ∃ k, ks[i]? = some k ∧ knd.is k v = true ∧ v.scannable = true) :
    ∀ (m i : Nat) (s : Shared), n - i = m → i ≤ n → Sv i s → s.heap.SetOf knd Z (fun x => (dd [] (ks.take i)).any (· == x)) (dd [] (ks.take i)).length →
      (∀ s', Moved (Z :: wr) G s s' → s'.heap.SetOf knd Z (fun x => (dd [] ks).any (· == x)) (dd [] ks).length → R (.ok (.ret .none)) s') →
      codeAny (model prog w) A (.builtin "set.update.loop" ⟨[.ref Z, .ref I], []⟩) R s := by
  have zw : Z ∉ wr := fun h => hZ (W.sub _ h)
  have up : ∀ b ∈ wr, b ∈ Z :: wr := fun b hb => List.mem_cons_of_mem _ hb
  intro m
  induction m with
  | zero =>
    intro i s hm hi st hS fin
    obtain rfl : i = n := by omega
    refine codeAny_builtin PyProof.Rows.F.entry_set_update_loop ?_
    rw [Around.under_plainId PyProof.Rows.F.plain_set_update_loop _]
    show wpAny _ A.in1 (pyNext (.ref I) >>= _) _ _ s
    refine wpAny_bind (W.done s _ _ st fun s' mv => ?_)
    show wpAny _ A.in1 (ret Value.none) _ _ s'
    refine wpAny_pure (fin s' (mv.mono up) ?_)
    rw [← hsz, List.take_length] at hS
    obtain ⟨o, es, ep, t, ho, rest⟩ := hS
    exact ⟨o, es, ep, t, mv.heap Z _ zw ho, rest⟩
  | succ m ih =>
    intro i s hm hi st hS fin
    have lt : i < n := by omega
    refine codeAny_builtin PyProof.Rows.F.entry_set_update_loop ?_
    rw [Around.under_plainId PyProof.Rows.F.plain_set_update_loop _]
    show wpAny _ A.in1 (pyNext (.ref I) >>= _) _ _ s
    refine wpAny_bind (W.item i s _ _ lt st fun v s' hP st' mv => ?_)
    obtain ⟨k, hk, kis, ksc⟩ := hv i v hP
    have hS1 : s'.heap.SetOf knd Z (fun x => (dd [] (ks.take i)).any (· == x)) (dd [] (ks.take i)).length := by
      obtain ⟨o, es, ep, t, ho, rest⟩ := hS
      exact ⟨o, es, ep, t, mv.heap Z _ zw ho, rest⟩
    show wpAny _ A.in1 (holding [v] (setAdd Z v) >>= _) _ _ s'
    refine wpAny_bind (wpAny_holding ?_)
    unfold setAdd
    refine wpAny_holding (wpAny_bind (knd.pyHash (k := k) kis ?_))
    have room : (dd [] (ks.take i)).length + 1 < scanBound := by
      have a1 := dd_le (ks.take i) []
      have a2 : (ks.take i).length ≤ i := by rw [List.length_take]; omega
      simp only [List.length_nil] at a1
      unfold scanBound; omega
    refine wpAny_setAddHashed_of (knd := knd) (s := { s' with toks := s'.toks + 1 }) kis ksc hS1 room fun h' same hS2 => ?_
    have tk : ks.take (i + 1) = ks.take i ++ [k] := by
      rw [List.take_succ, hk]; rfl
    have hmem : ((dd [] (ks.take i)).any (· == k)) = decide (k ∈ dd [] (ks.take i)) := by
      by_cases z : k ∈ dd [] (ks.take i)
      · rw [decide_eq_true z, List.any_eq_true]; exact ⟨k, z, by simp⟩
      · rw [decide_eq_false z, List.any_eq_false]; intro x hx e; exact z ((beq_iff_eq.mp e) ▸ hx)
    have hS3 : h'.SetOf knd Z (fun x => (dd [] (ks.take (i + 1))).any (· == x)) (dd [] (ks.take (i + 1))).length := by
      refine SetOf_congr hS2 (fun x => ?_) ?_
      · rw [tk, dd_snoc]
        by_cases z : k ∈ dd [] (ks.take i)
        · rw [if_pos z]
          by_cases e : x = k
          · subst e; rw [hmem, decide_eq_true z]; simp
          · simp [e]
        · rw [if_neg z, List.any_append]
          by_cases e : x = k
          · subst e; simp
          · have : (k == x) = false := by simpa [beq_iff_eq] using fun q : k = x => e q.symm
            simp [this, e]
      · rw [tk, dd_snoc, hmem]
        by_cases z : k ∈ dd [] (ks.take i)
        · simp [z]
        · simp [z]
    refine wpAny_pure ⟨plainId_quiet PyProof.Rows.F.plain_set_update_loop _, ih (i + 1) _ (by omega) lt (W.frame _ s' _ _ st' (Nat.le_succ _) fun b hb o e => ?_) hS3 fun s2 mv2 hS4 => ?_⟩
    · rw [same.2 b (fun h : b = Z => hZ (by rw [← h]; exact hb))]; exact e
    · refine fin s2 (Moved.trans W.gtrans ((mv.mono up).then_heap (Nat.le_succ _) fun b o hb e => ?_) mv2) hS4
      rw [same.2 b (fun h : b = Z => hb (by rw [h]; exact List.mem_cons_self))]; exact e
end
section
variable {prog : Program} {w : World} {A : Around} {E : Value → Shared → Prop} {s : Shared} {KT : Type} [DecidableEq KT] [BEq KT] [LawfulBEq KT] {knd : KeyKind prog w KT}
set_option maxHeartbeats 3200000 in
/-- set(xs) -/
theorem set_of_list {l : Addr} {items : Array Value} {ks : List KT} {Q : Value → Shared → Prop} (hh : A.handled = none) (hl : s.heap.IsList l items) (hsz : ks.length = items.size) (hn : items.size ≤ 1000)
    (hv : ∀ (i : Nat) (v : Value), items[i]? = some v → ∃ k, ks[i]? = some k ∧ knd.is k v = true ∧ v.scannable = true)
    (fin : ∀ (h' : Heap) (tk : Nat), h'.SetOf knd s.heap.objs.size (fun x => (dd [] ks).any (· == x)) (dd [] ks).length →
      (∀ b o, b < s.heap.objs.size → s.heap.get? b = some o → h'.get? b = some o) → Q (.ref s.heap.objs.size) { s with heap := h', toks := tk }) :
    wpAny (model prog w) A (call (.type "set") [.ref l]) Q E s := by
  obtain ⟨c, tl, hmro⟩ := PySem.F.called_set.mro
  have q1 := PySem.F.called_set.made
  have q2 := PySem.F.called_set.sub
  refine wpAny_call (codeAny_of_tree ?_)
  show wpAny _ _ (callAny (.type "set") _) _ _ _
  refine wpAny_pure ⟨Code.quiet_builtin _ (by decide +kernel), codeAny_builtin PySem.F.entry_type_call ?_⟩
  rw [Around.under_plain (weight_type_call_type "set" [.ref l] []) rfl]
  have q3 := PySem.F.called_set.notType
  have q4 := PySem.F.called_set.canCreate
  have q5 := PySem.F.typeCall_set_1 (.ref l)
  repeat (any_goals (first | assumption | wp_step))
  refine codeAny_mono (code_set_new_1 (.ref l) (E := E) (Q₁ := fun ob t => ∃ led : Bool, ob = .ref s.heap.objs.size ∧ t = { s with heap := s.heap.push { cls := .type "set", dict := none, data := .set #[] 0 (.fresh 0 0 led) } }) fun led => ⟨led, rfl, rfl⟩) fun r t hr => ?_
  cases r with
  | error e => exact hr
  | ok fl =>
    cases fl with
    | ret ob =>
      obtain ⟨led, rfl, rfl⟩ := hr
      have g0 : (s.heap.push { cls := .type "set", dict := none, data := .set #[] 0 (.fresh 0 0 led) }).get? s.heap.objs.size = some { cls := .type "set", dict := none, data := .set #[] 0 (.fresh 0 0 led) } := Heap.get?_push_size _ rfl
      have ty0 : Shared.TypeIs { s with heap := s.heap.push { cls := .type "set", dict := none, data := .set #[] 0 (.fresh 0 0 led) } } (.ref s.heap.objs.size) "set" := ⟨_, g0, rfl⟩
      have q6 := PySem.F.called_set.init.lookup
      have q7 := PySem.F.called_set.init.bind (.ref s.heap.objs.size)
      repeat (any_goals (first | assumption | wp_step))
      refine codeAny_mono (codeAny_call_builtin (R := wants (fun r t2 => r = .none ∧ ∃ h' tk, t2 = { s with heap := h', toks := tk } ∧ h'.SetOf knd s.heap.objs.size (fun x => (dd [] ks).any (· == x)) (dd [] ks).length ∧
          (∀ b o, b < s.heap.objs.size → s.heap.get? b = some o → h'.get? b = some o)) E) PySem.F.called_set.init.plain PySem.F.entry_set_init (check_set_init_1 ty0 ?_)) fun r2 t2 hr2 => ?_
      · obtain ⟨ol, hol, hcl, nl, hdl⟩ := hl
        obtain ⟨ocls, odict, odata, oslots⟩ := ol
        simp only at hcl hdl
        subst hcl; subst hdl
        have hol' : (s.heap.push { cls := .type "set", dict := none, data := .set #[] 0 (.fresh 0 0 led) }).get? l = some { cls := .type "list", dict := odict, data := .seq items nl, slots := oslots } := Heap.get?_push_of_some _ hol
        have q8 := PySem.F.sub_list_set
        have q9 := PySem.F.sub_list_frozenset
        have q10 : (Value.type "list" == Value.type "dict") = false := by decide
        have hl1 : (s.heap.push { cls := .type "set", dict := none, data := .set #[] 0 (.fresh 0 0 led) }).IsList l items := ⟨_, hol', rfl, nl, rfl⟩
        unfold Builtin.«set.__init__» noKeywords Builtin.Frozenset.updateFrom
        generalize hPI : pyIter = PI
        wp_walk
        subst hPI
        refine wpAny_pyIter_list hl1 ?_
        refine wpAny_bind (wpAny_runValue ?_)
        have lS : l < s.heap.objs.size := Heap.lt_size hol
        have hh3 : A.in1.in1.in1.handled = none := by simp [hh]
        have ne1 : l ≠ (s.heap.push { cls := .type "set", dict := none, data := .set #[] 0 (.fresh 0 0 led) }).objs.size := by
          rw [Heap.size_push]; exact Nat.ne_of_lt (Nat.lt_succ_of_lt lS)
        have ne2 : s.heap.objs.size ∉ [(s.heap.push { cls := .type "set", dict := none, data := .set #[] 0 (.fresh 0 0 led) }).objs.size, l] := by
          rw [Heap.size_push]; simp only [List.mem_cons, List.mem_singleton, List.not_mem_nil, or_false, not_or]
          exact ⟨Nat.ne_of_lt (Nat.lt_succ_self _), Nat.ne_of_gt lS⟩
        refine set_turns (knd := knd) ((Walks.list hh3 _ l ne1 items).toS) s.heap.objs.size ne2 ks hsz hn hv (items.size - 0) 0 _ (by omega) (Nat.zero_le _) ⟨⟨_, Heap.get?_push_size _ rfl, rfl, rfl⟩, (hl1.push _)⟩ ?zStart ?zEnd
        case zStart =>
          have g1 : ((s.heap.push { cls := .type "set", dict := none, data := .set #[] 0 (.fresh 0 0 led) }).push { cls := .type "list_iterator", data := .fields #[.ref l, .int 0 0] }).get? s.heap.objs.size = some { cls := .type "set", dict := none, data := .set #[] 0 (.fresh 0 0 led) } := Heap.get?_push_of_some _ g0
          exact SetOf_congr ((PyProof.Rows.setObjOf_fresh (knd := knd) led).setOf g1 (by unfold scanBound; omega)) (fun _ => rfl) rfl
        case zEnd =>
          intro s' mv hS'
          obtain ⟨h', g', d', tk', os'⟩ := s'
          have eg : g' = s.gens := mv.gens
          have ed : d' = s.drawn := mv.drawn
          have eo : os' = s.os := mv.os
          subst eg; subst ed; subst eo
          show wpAny _ _ _ _ _ _
          refine wpAny_pure ?_
          show wpAny _ _ (ret Value.none) _ _ _
          refine wpAny_pure ⟨rfl, h', tk', rfl, hS', fun b o hb e => ?_⟩
          refine mv.heap b o ?_ (Heap.get?_push_of_some _ (Heap.get?_push_of_some _ e))
          have n2 : b ≠ (s.heap.push { cls := .type "set", dict := none, data := .set #[] 0 (.fresh 0 0 led) }).objs.size := by
            rw [Heap.size_push]; exact Nat.ne_of_lt (Nat.lt_succ_of_lt hb)
          simp only [List.mem_cons, List.mem_singleton, List.not_mem_nil, or_false, not_or]
          exact ⟨Nat.ne_of_lt hb, n2⟩
      · cases r2 with
        | error e => exact hr2
        | ok fl2 =>
          cases fl2 with
          | ret r =>
            obtain ⟨rfl, h', tk, rfl, hS', hk'⟩ := hr2
            repeat (any_goals (first | assumption | wp_step))
            exact fin _ _ hS' hk'
          | _ => exact hr2.elim
    | _ => exact hr.elim
end
end Tv

set_option Elab.async false
set_option linter.all false
set_option maxRecDepth 100000
/-! A set of a list's ints, as HandS knows it; sorted(set(xs)). -/
namespace Tv
open PySem PySem.Spec PyProof.Rows L2

section
variable {prog : Program} {w : World} {A : Around} {E : Value → Shared → Prop} {s : Shared}
set_option maxHeartbeats 3200000 in
/-- set(xs), xs a list of ints -/
theorem set_of_ints {l : Addr} {items : Array Value} {ns : List Int} {Q : Value → Shared → Prop} (hh : A.handled = none) (hl : s.heap.IsList l items) (hit : IntsAre items.toList ns) (hb : ns.length + 1 < scanBound)
    (fin : ∀ (h' : Heap) (tk c : Nat), SetR w h' s.heap.objs.size (fun j => decide (j ∈ ns)) c → c ≤ ns.length →
      (∀ b o, s.heap.get? b = some o → h'.get? b = some o) → Q (.ref s.heap.objs.size) { s with heap := h', toks := tk }) :
    wpAny (model prog w) A (call (.type "set") [.ref l]) Q E s := by
  have hsz : items.size = ns.length := by
    have q := IntsAre.length hit
    rw [Array.length_toList] at q
    exact q
  obtain ⟨c, tl, hmro⟩ := PySem.F.called_set.mro
  have q1 := PySem.F.called_set.made
  have q2 := PySem.F.called_set.sub
  refine wpAny_call (codeAny_of_tree ?_)
  show wpAny _ _ (callAny (.type "set") _) _ _ _
  refine wpAny_pure ⟨Code.quiet_builtin _ (by decide +kernel), codeAny_builtin PySem.F.entry_type_call ?_⟩
  rw [Around.under_plain (weight_type_call_type "set" [.ref l] []) rfl]
  have q3 := PySem.F.called_set.notType
  have q4 := PySem.F.called_set.canCreate
  have q5 := PySem.F.typeCall_set_1 (.ref l)
  repeat (any_goals (first | assumption | wp_step))
  refine codeAny_mono (code_set_led1 (.ref l) (E := E) (Q₁ := fun ob t => ob = .ref s.heap.objs.size ∧ t = { s with heap := s.heap.push { cls := .type "set", dict := none, data := .set #[] 0 (.fresh 0 0 (!w.params.followText "set-order")) } }) ⟨rfl, rfl⟩) fun r t hr => ?_
  cases r with
  | error e => exact hr
  | ok fl =>
    cases fl with
    | ret ob =>
      obtain ⟨rfl, rfl⟩ := hr
      have g0 : (s.heap.push { cls := .type "set", dict := none, data := .set #[] 0 (.fresh 0 0 (!w.params.followText "set-order")) }).get? s.heap.objs.size = some { cls := .type "set", dict := none, data := .set #[] 0 (.fresh 0 0 (!w.params.followText "set-order")) } := Heap.get?_push_size _ rfl
      have ty0 : Shared.TypeIs { s with heap := s.heap.push { cls := .type "set", dict := none, data := .set #[] 0 (.fresh 0 0 (!w.params.followText "set-order")) } } (.ref s.heap.objs.size) "set" := ⟨_, g0, rfl⟩
      have q6 := PySem.F.called_set.init.lookup
      have q7 := PySem.F.called_set.init.bind (.ref s.heap.objs.size)
      repeat (any_goals (first | assumption | wp_step))
      refine codeAny_mono (codeAny_call_builtin (R := wants (fun r t2 => r = .none ∧ ∃ h' tk c, t2 = { s with heap := h', toks := tk } ∧ SetR w h' s.heap.objs.size (fun j => decide (j ∈ ns)) c ∧ c ≤ ns.length ∧
          (∀ b o, s.heap.get? b = some o → h'.get? b = some o)) E) PySem.F.called_set.init.plain PySem.F.entry_set_init (check_set_init_1 ty0 ?_)) fun r2 t2 hr2 => ?_
      · obtain ⟨ol, hol, hcl, nl, hdl⟩ := hl
        obtain ⟨ocls, odict, odata, oslots⟩ := ol
        simp only at hcl hdl
        subst hcl; subst hdl
        have hol' : (s.heap.push { cls := .type "set", dict := none, data := .set #[] 0 (.fresh 0 0 (!w.params.followText "set-order")) }).get? l = some { cls := .type "list", dict := odict, data := .seq items nl, slots := oslots } := Heap.get?_push_of_some _ hol
        have q8 := PySem.F.sub_list_set
        have q9 := PySem.F.sub_list_frozenset
        have q10 : (Value.type "list" == Value.type "dict") = false := by decide
        have hl1 : (s.heap.push { cls := .type "set", dict := none, data := .set #[] 0 (.fresh 0 0 (!w.params.followText "set-order")) }).IsList l items := ⟨_, hol', rfl, nl, rfl⟩
        unfold Builtin.«set.__init__» noKeywords Builtin.Frozenset.updateFrom
        generalize hPI : pyIter = PI
        wp_walk
        subst hPI
        refine wpAny_pyIter_list hl1 ?_
        refine wpAny_bind (wpAny_runValue ?_)
        have lS : l < s.heap.objs.size := Heap.lt_size hol
        have hh3 : A.in1.in1.in1.handled = none := by simp [hh]
        have ne1 : l ≠ (s.heap.push { cls := .type "set", dict := none, data := .set #[] 0 (.fresh 0 0 (!w.params.followText "set-order")) }).objs.size := by
          rw [Heap.size_push]; exact Nat.ne_of_lt (Nat.lt_succ_of_lt lS)
        have ne2 : s.heap.objs.size ∉ [(s.heap.push { cls := .type "set", dict := none, data := .set #[] 0 (.fresh 0 0 (!w.params.followText "set-order")) }).objs.size, l] := by
          rw [Heap.size_push]; simp only [List.mem_cons, List.mem_singleton, List.not_mem_nil, or_false, not_or]
          exact ⟨Nat.ne_of_lt (Nat.lt_succ_self _), Nat.ne_of_gt lS⟩
        have hval : ∀ (i : Nat) (v : Value), items[i]? = some v → ∃ k t, ns[i]? = some k ∧ v = .int k t := fun i v hv => by
          have hi : i < ns.length := by rw [← hsz]; exact (Array.getElem?_eq_some_iff.mp hv).1
          obtain ⟨t, e⟩ := PyProof.Rows.IntsAre.int_at hit i v (by rw [Array.getElem?_toList]; exact hv)
          refine ⟨ns[i], t, List.getElem?_eq_getElem hi, ?_⟩
          rw [e, List.getD_eq_getElem?_getD, List.getElem?_eq_getElem hi] <;> rfl
        refine set_update_ints ((Walks.list hh3 _ l ne1 items).toS) s.heap.objs.size ne2 ns hsz hb hval (items.size - 0) 0 _ (by omega) (Nat.zero_le _) ⟨⟨_, Heap.get?_push_size _ rfl, rfl, rfl⟩, (hl1.push _)⟩ ?zStart ?zEnd
        case zStart =>
          have g1 : ((s.heap.push { cls := .type "set", dict := none, data := .set #[] 0 (.fresh 0 0 (!w.params.followText "set-order")) }).push { cls := .type "list_iterator", data := .fields #[.ref l, .int 0 0] }).get? s.heap.objs.size = some { cls := .type "set", dict := none, data := .set #[] 0 (.fresh 0 0 (!w.params.followText "set-order")) } := Heap.get?_push_of_some _ g0
          exact ⟨0, Nat.le_refl 0, setR_new_at g1⟩
        case zEnd =>
          intro s' c' mv hc' hS'
          obtain ⟨h', g', d', tk', os'⟩ := s'
          have eg : g' = s.gens := mv.gens
          have ed : d' = s.drawn := mv.drawn
          have eo : os' = s.os := mv.os
          subst eg; subst ed; subst eo
          show wpAny _ _ _ _ _ _
          refine wpAny_pure ?_
          show wpAny _ _ (ret Value.none) _ _ _
          rw [hsz] at hc'
          refine wpAny_pure ⟨rfl, h', tk', c', rfl, hS', hc', fun b o e => ?_⟩
          have hb : b < s.heap.objs.size := Heap.lt_size e
          refine mv.heap b o ?_ (Heap.get?_push_of_some _ (Heap.get?_push_of_some _ e))
          have n2 : b ≠ (s.heap.push { cls := .type "set", dict := none, data := .set #[] 0 (.fresh 0 0 (!w.params.followText "set-order")) }).objs.size := by
            rw [Heap.size_push]; exact Nat.ne_of_lt (Nat.lt_succ_of_lt hb)
          simp only [List.mem_cons, List.mem_singleton, List.not_mem_nil, or_false, not_or]
          exact ⟨Nat.ne_of_lt hb, n2⟩
      · cases r2 with
        | error e => exact hr2
        | ok fl2 =>
          cases fl2 with
          | ret r =>
            obtain ⟨rfl, h', tk, c', rfl, hS', hc', hk'⟩ := hr2
            repeat (any_goals (first | assumption | wp_step))
            exact fin _ _ _ hS' hc' hk'
          | _ => exact hr2.elim
    | _ => exact hr.elim
end
end Tv
namespace Tv
open PySem PySem.Spec PyProof.Rows L2
section
variable {X : Cx}
/-- set(xs), xs a list of ints -/
def rSetOfL (K : PySem.W.Frag) (w : World) : List V → Hp → VK → Prop := fun vs H Q => ∃ (l : Addr) (ns : List Int), vs = [.ref l] ∧ SqL K H l (ns.map V.int) ∧ ns.length ≤ 1000 ∧
  ∀ (p : Addr) (c : Nat), H p = none → c ≤ ns.length → Q (.ref p) (upd H p (SetO w p (fun j => decide (j ∈ ns)) c))
theorem cr_setL (hc : X.calm = true) : CallR X (.type "set") (rSetOfL X.K X.w) := by
  intro pins s σ H vs us Q I r h
  obtain ⟨l, ns, rfl, hs, h1000, q⟩ := h
  rw [Vals.ref1 r]
  obtain ⟨its, rv, pl, hz⟩ := I.list hs
  refine set_of_ints (ns := ns) (I.ok.hd hc) pl.isList (by simpa using ints_of_vals rv) (by unfold scanBound; omega) fun h' tk c hS hcl hk => ?_
  have hn : H s.heap.objs.size = none := I.hok.fresh (Nat.le_refl _)
  exact ⟨.ref _, _, I.laid (t' := tk) hk (Nat.le_refl _) (setO_new hS), rfl, q _ c hn hcl⟩
end
theorem mem_dd : ∀ (l acc : List Int) (x : Int), x ∈ dd acc l ↔ x ∈ acc ∨ x ∈ l
  | [], acc, x => by simp [dd]
  | y :: l, acc, x => by
    unfold dd
    rw [mem_dd l _ x]
    by_cases h : y ∈ acc
    · rw [if_pos h]
      constructor
      · rintro (z | z)
        · exact .inl z
        · exact .inr (List.mem_cons_of_mem _ z)
      · rintro (z | z)
        · exact .inl z
        · rcases List.mem_cons.mp z with rfl | z
          · exact .inl h
          · exact .inr z
    · rw [if_neg h]
      simp only [List.mem_append, List.mem_singleton, List.mem_cons, or_assoc, List.not_mem_nil, false_or]
theorem nodup_dd : ∀ (l acc : List Int), acc.Nodup → (dd acc l).Nodup
  | [], acc, h => h
  | y :: l, acc, h => by
    unfold dd
    refine nodup_dd l _ ?_
    split
    · exact h
    · rename_i hy
      exact List.nodup_append.mpr ⟨h, List.nodup_cons.mpr ⟨List.not_mem_nil, List.nodup_nil⟩, fun a ha b hb e => by
        rw [List.mem_singleton] at hb
        subst hb; subst e
        exact hy ha⟩
/-- what sorted(set(ns)) is -/
theorem sorted_dd {ns ms : List Int} (hs : ms.Pairwise (· < ·)) (hm : ∀ k : Int, k ∈ ms ↔ k ∈ ns) : ms.Perm (dd [] ns) :=
  (List.perm_ext_iff_of_nodup (hs.imp fun h => by omega) (nodup_dd ns [] List.nodup_nil)).mpr fun k => by rw [hm, mem_dd]; simp
end Tv

set_option Elab.async false
set_option linter.all false
set_option maxRecDepth 100000
/-! Soundness of expressions: the built-ins. -/
namespace Tv
open PySem PySem.Spec PyProof.Rows L2

theorem ints_has : ∀ {us : List Value} {ns : List Int}, Vals (ns.map V.int) us → ∀ (i : Nat) (v : Value), us[i]? = some v → ∃ k t, ns[i]? = some k ∧ v = .int k t
  | [], [], _, i, v, h => by simp at h
  | u :: us, n :: ns, .cons r q, 0, v, h => by
    obtain ⟨t, rfl⟩ := r
    simp at h; subst h
    exact ⟨n, t, rfl, rfl⟩
  | u :: us, n :: ns, .cons r q, i + 1, v, h => by
    obtain ⟨k, t, e1, e2⟩ := ints_has q i v (by simpa using h)
    exact ⟨k, t, by simpa using e1, e2⟩
theorem strs_has : ∀ {us : List Value} {ns : List Str}, Vals (ns.map V.str) us → ∀ (i : Nat) (v : Value), us[i]? = some v → ∃ k t, ns[i]? = some k ∧ v = .str k t
  | [], [], _, i, v, h => by simp at h
  | u :: us, n :: ns, .cons r q, 0, v, h => by
    obtain ⟨t, rfl⟩ := r
    simp at h; subst h
    exact ⟨n, t, rfl, rfl⟩
  | u :: us, n :: ns, .cons r q, i + 1, v, h => by
    obtain ⟨k, t, e1, e2⟩ := strs_has q i v (by simpa using h)
    exact ⟨k, t, by simpa using e1, e2⟩
theorem lenset_ok {X : Cx} {a : Expr} {ta : TE} {p p2 q pos : Pos} (hc : X.calm = true) (hg : Gl X "len") (hm : X.mg "len" = none) (hg2 : Gl X "set") (hm2 : X.mg "set" = none) (ha : PE X a ta)
    (na : starEach [a] X.env = (false, eval a X.env) :: starEach [] X.env) : PE X (.Call (.Name "len" p) [.Call (.Name "set" p2) [a] [] q] [] pos) (fun σ H Q => ta σ H fun x H1 => rB1 (X := X) .lenset [x] H1 Q) := by
  refine ⟨fun pins s σ H Q I h => ?_⟩
  refine Call_ (ld_blt I hg hm boot_len ?_)
  refine PyProof.Rows.callWith_builtin1 (PyProof.Rows.args_cons ?_ rfl) rfl rfl
  refine Call_ (ld_blt I hg2 hm2 boot_set ?_)
  refine PyProof.Rows.callWith_type1 (PyProof.Rows.args_cons (thn (ha.run pins s σ H _ I h) fun v s1 ⟨x, H1, I1, r1, q1⟩ => PyProof.Rows.args_nil ?_) na) na rfl
  obtain ⟨XR, F, γ, d, d', y, ey, op, eb, q1⟩ := q1
  cases ey
  cases d with
  | lst ds =>
    obtain ⟨l, xs, rfl, e1, r⟩ := op.lst
    cases r1
    simp only [b1D, Option.map_eq_some_iff] at eb
    obtain ⟨m, eb, rfl⟩ := eb
    obtain ⟨its, rv, pl, hz⟩ := I1.list (SqL.of (K := X.K) e1)
    have hlen : its.length = xs.length := rv.length.symm
    have done : ∀ {KT : Type} [DecidableEq KT] [BEq KT] [LawfulBEq KT] {knd : KeyKind X.prog X.w KT} (ks : List KT), ks.length ≤ 1000 → m = (dd [] ks).length → ∀ (h' : Heap) (tk : Nat), h'.SetOf knd s1.heap.objs.size (fun x => (dd [] ks).any (· == x)) (dd [] ks).length →
        (∀ b o, b < s1.heap.objs.size → s1.heap.get? b = some o → h'.get? b = some o) → wpAny (model X.prog X.w) X.A (call (.builtin "len") [.ref s1.heap.objs.size]) (EP X pins σ Q) X.xe { s1 with heap := h', toks := tk } := by
      intro KT _ _ _ knd ks hk em h' tk hS kp
      obtain ⟨o, es, ep, t, ho, hex, hd, _, _, _, hf, hn⟩ := hS
      have I2 : Inv X pins σ H1 { s1 with heap := h', toks := tk } := I1.kept fun b o e => kp b o (Heap.lt_size e) e
      have hle := dd_le ks []
      simp only [List.length_nil] at hle
      exact call_len_set ho hex hd hf (by rw [hn]; omega) ⟨.int (m : Int), H1, I2.tok _, ⟨_, by rw [hn, em]⟩, q1 _ _ (got_int _)⟩
    unfold dcount at eb
    cases hi : getIs ds with
    | some ns =>
      rw [hi] at eb
      simp only at eb
      split at eb
      · rename_i h1000
        cases eb
        obtain ⟨e2, e3⟩ := RpL.getIs r hi
        subst e2
        rw [List.length_map] at hlen
        refine set_of_list (knd := intKind X.prog X.w) (ks := ns) (I1.ok.hd hc) pl.isList (by rw [List.size_toArray]; omega) (by rw [List.size_toArray]; omega) (fun i v hv => ?_) fun h' tk hS kp => PyProof.Rows.args_nil (done (knd := intKind X.prog X.w) ns h1000 rfl h' tk hS kp)
        obtain ⟨k, t, e4, rfl⟩ := ints_has rv i v (by simpa using hv)
        exact ⟨k, e4, intKind_is _ _ _ _, rfl⟩
      · cases eb
    | none =>
      rw [hi] at eb
      simp only at eb
      cases hs : getSs ds with
      | some ns =>
        rw [hs] at eb
        simp only at eb
        split at eb
        · rename_i h1000
          cases eb
          obtain ⟨e2, e3⟩ := RpL.getSs r hs
          subst e2
          rw [List.length_map] at hlen
          refine set_of_list (knd := PySem.strKind X.prog X.w) (ks := ns) (I1.ok.hd hc) pl.isList (by rw [List.size_toArray]; omega) (by rw [List.size_toArray]; omega) (fun i v hv => ?_) fun h' tk hS kp => PyProof.Rows.args_nil (done (knd := PySem.strKind X.prog X.w) ns h1000 rfl h' tk hS kp)
          obtain ⟨k, t, e4, rfl⟩ := strs_has rv i v (by simpa using hv)
          exact ⟨k, e4, strKind_is _ _ _ _, rfl⟩
        · cases eb
      | none => rw [hs] at eb; cases eb
  | _ => cases eb
theorem bt_sorted0 : bootBuiltins "sorted" = some (.builtin "sorted") := by decide +kernel
theorem srtset_ok {X : Cx} {a : Expr} {ta : TE} {p p2 q pos : Pos} (hc : X.calm = true) (hg : Gl X "sorted") (hm : X.mg "sorted" = none) (hg2 : Gl X "set") (hm2 : X.mg "set" = none) (ha : PE X a ta)
    (na : ∀ l, starEach (a :: l) X.env = (false, eval a X.env) :: starEach l X.env) : PE X (.Call (.Name "sorted" p) [.Call (.Name "set" p2) [a] [] q] [] pos) (fun σ H Q => ta σ H fun x H1 => rSetOfL X.K X.w [x] H1 fun y H2 => rSortedSet X.w [y] H2 Q) := by
  have h1 := pe_callTy (x := "set") (p := p2) (pos := q) (cr_setL hc) hg2 hm2 boot_set (pa_cons ha pa_nil (na _)) (by decide) (by decide) (na _) (by rfl)
  exact PE.weak (pe_callB (x := "sorted") (p := p) (pos := pos) (cr_sortedSet hc) hg hm bt_sorted0 (pa_cons h1 pa_nil (by rfl)) (by decide) (by decide) (by rfl) (by rfl)) fun σ H Q h => h
section
variable {S : Se} {X : Cx} {C : Ct} {k : Nat} {W : WX} {e : Expr}

theorem scal_b1 {o : Bi1} (ho : (match o with | .len | .sum | .min | .max | .all | .any | .str | .abs | .lenset => true | _ => false) = true) : ∀ d d', b1D o d = some d' → scal d' = true := by
  intro d d' h
  cases o <;> first | (cases ho; done) | skip
  all_goals (cases d <;> simp only [b1D, Option.map_eq_some_iff, Option.bind_eq_some_iff] at h)
  all_goals first
    | (cases h; done)
    | (cases h; rfl)
    | (obtain ⟨_, _, h⟩ := h; subst h; rfl)
    | (obtain ⟨_, _, _, _, h⟩ := h; subst h; rfl)
    | (split at h
       · obtain ⟨_, _, h⟩ := h; subst h; rfl
       · split at h
         · obtain ⟨_, _, h⟩ := h; subst h; rfl
         · cases h)
    | (split at h
       · rw [Option.map_eq_some_iff] at h; obtain ⟨_, _, h⟩ := h; subst h; rfl
       · split at h
         · rw [Option.map_eq_some_iff] at h; obtain ⟨_, _, h⟩ := h; subst h; rfl
         · cases h)
    | (split at h <;> cases h <;> rfl)
theorem bt_isi : bootBuiltins "isinstance" = some (.builtin "isinstance") := by decide +kernel
theorem bt_sorted : bootBuiltins "sorted" = some (.builtin "sorted") := by decide +kernel
theorem bt_sum : bootBuiltins "sum" = some (.builtin "sum") := by decide +kernel
theorem bt_min : bootBuiltins "min" = some (.builtin "min") := by decide +kernel
theorem bt_max : bootBuiltins "max" = some (.builtin "max") := by decide +kernel
theorem bt_all : bootBuiltins "all" = some (.builtin "all") := by decide +kernel
theorem bt_any : bootBuiltins "any" = some (.builtin "any") := by decide +kernel
theorem bt_tuple : bootBuiltins "tuple" = some (.type "tuple") := by decide +kernel
theorem bt_int : bootBuiltins "int" = some (.type "int") := by decide +kernel
theorem bt_abs : bootBuiltins "abs" = some (.builtin "abs") := by decide +kernel
theorem bt_str : bootBuiltins "str" = some (.type "str") := by decide +kernel
theorem s_b1 {o : Bi1} {a : Ex} (O : XOk S X C k W) (ha : ∀ e, mtE C a e = true → PE X e (tE S W a)) (h : mtE C (.b1 o a) e = true) : PE X e (tE S W (.b1 o a)) := by
  cases o with
  | lenset =>
    simp only [mtE] at h
    split at h
    · rename_i f x hx
      obtain ⟨p, p2, rfl⟩ := dCall_eq hx
      simp only [Bool.and_eq_true] at h
      obtain ⟨h1, h2⟩ := h
      split at h2
      · rename_i s y hy
        obtain ⟨p3, p4, e2⟩ := dCall_eq hy
        simp only at e2
        subst e2
        simp only [Bool.and_eq_true] at h2
        obtain ⟨h2, h3⟩ := h2
        obtain ⟨ef, b1, b2, b3, b4⟩ := isB_ok O h1
        obtain ⟨eg, c1, c2, c3, c4⟩ := isB_ok O h2
        subst ef eg
        refine PE.weak (lenset_ok O.calm b1 b2 c1 c2 (ha _ h3) (star_eq (nice_of h3) _ _)) fun σ H Q ⟨env, g, γ, loc, R, q⟩ => ?_
        simp only [evE] at q
        refine seq1 (Rr := fun v H1 => rB1 (X := X) .lenset [v] H1 Q) R q fun d1 g2 v1 H2 γ2 R2 s2 p1 q2 => ?_
        obtain ⟨d, e1, q3⟩ := q2.okR
        have o1 := p1.opd R2
        rw [O.K] at o1
        refine ⟨S.XR, _, γ2, _, d, _, rfl, o1, e1, fun v H' got => ?_⟩
        rw [← O.K] at got
        obtain ⟨R3, s3, nw⟩ := got_fin R2 O.xr got
        exact q3 v H' γ2 R3 (s2.trans s3 R.cellne) (nw.back s2).rp
      · cases h2
    · cases h
  | srtset =>
    simp only [mtE] at h
    split at h
    · rename_i f x hx
      obtain ⟨p, p2, rfl⟩ := dCall_eq hx
      simp only [Bool.and_eq_true] at h
      obtain ⟨h1, h2⟩ := h
      split at h2
      · rename_i s y hy
        obtain ⟨p3, p4, e2⟩ := dCall_eq hy
        simp only at e2
        subst e2
        simp only [Bool.and_eq_true] at h2
        obtain ⟨h2, h3⟩ := h2
        obtain ⟨ef, b1, b2, b3, b4⟩ := isB_ok O h1
        obtain ⟨eg, c1, c2, c3, c4⟩ := isB_ok O h2
        subst ef eg
        refine PE.weak (srtset_ok O.calm b1 b2 c1 c2 (ha _ h3) (fun l => star_eq (nice_of h3) _ _)) fun σ H Q ⟨env, g, γ, loc, R, q⟩ => ?_
        simp only [evE] at q
        refine seq1 (Rr := fun v H1 => rSetOfL X.K X.w [v] H1 fun y H2 => rSortedSet X.w [y] H2 Q) R q fun d1 g2 v1 H2 γ2 R2 s2 p1 q2 => ?_
        obtain ⟨d, e1, q3⟩ := q2.okR
        have o1 := p1.opd R2
        cases hdr : dr g2 d1 with
        | lst ds =>
          rw [hdr] at o1 e1
          obtain ⟨l, ys, rfl, f1, r1⟩ := o1.lst
          simp only [b1D] at e1
          split at e1
          · rename_i ns hn
            split at e1
            · rename_i h64
              cases e1
              obtain ⟨rfl, _⟩ := r1.getIs hn
              refine ⟨l, ns, rfl, SqL.of f1, by omega, fun p0 c z0 hcl => ⟨p0, _, c, rfl, upd_same, by omega, fun ms p1 hs hmem hl z1 => ?_⟩⟩
              have em : ms = sortI (dd [] ns) := sortI_eq (sorted_dd hs fun k => by rw [hmem]; simp) (hs.imp fun h => by omega)
              rw [em]
              obtain ⟨R3, s3⟩ := alloc_new R2 O.xr (o := SetO X.w p0 (fun j => decide (j ∈ ns)) c) z0
              obtain ⟨R4, s4, nw⟩ := got_fin (d := .lst ((sortI (dd [] ns)).map D.int)) (v := .ref p1) R3 O.xr (.inr ⟨p1, _, _, z1, rfl, rfl, rfl, .of_ints _⟩)
              exact q3 _ _ γ2 R4 ((s2.trans s3 R.cellne).trans s4 R.cellne) ((nw.back s3).back s2).rp
            · cases e1
          · cases e1
        | _ => rw [hdr] at e1; simp [b1D] at e1
      · cases h2
    · cases h
  | tuple =>
    simp only [mtE] at h
    split at h
    · rename_i f x hx
      obtain ⟨p, p2, rfl⟩ := dCall_eq hx
      simp only [Bool.and_eq_true] at h
      obtain ⟨h1, h2⟩ := h
      obtain ⟨ef, b1, b2, b3, b4⟩ := isB_ok O h1
      subst ef
      have nx := nice_of h2
      refine PE.weak (pe_callTy call_tuple_of b1 b2 bt_tuple (pa_cons (ha _ h2) pa_nil (star_eq nx _ _)) b4 b3 (star_eq nx _ _) rfl) fun σ H Q ⟨env, g, γ, loc, R, q⟩ => ?_
      simp only [evE] at q
      refine seq1 (Rr := fun v H1 => ∃ p ys, [v] = [V.ref p] ∧ ((SqL X.K H1 p ys ∧ ∀ l, H1 l = none → Q (.ref l) (upd H1 l (.tup ys))) ∨ (SqT X.K H1 p ys ∧ Q (.ref p) H1))) R q fun d1 g2 v1 H2 γ2 R2 s2 p1 q2 => ?_
      obtain ⟨d, e1, q3⟩ := q2.okR
      have o1 := p1.opd R2
      cases hdr : dr g2 d1 with
      | lst ds =>
        rw [hdr] at o1 e1
        obtain ⟨l, ys, rfl, f1, r1⟩ := o1.lst
        cases e1
        refine ⟨l, ys, rfl, .inl ⟨SqL.of f1, fun l2 hl2 => ?_⟩⟩
        obtain ⟨R3, s3⟩ := alloc_new R2 O.xr (o := .tup ys) hl2
        refine q3 _ _ γ2 R3 (s2.trans s3 R.cellne) ?_
        show Rp S.K S.XR _ _ _ _ _
        unfold Rp
        exact ⟨l2, ys, rfl, SqT.of upd_same, r1.mono ((Next.alloc hl2).mono O.xr R2)⟩
      | _ => rw [hdr] at e1; simp [b1D] at e1
    · cases h
  | int =>
    simp only [mtE] at h
    split at h
    · rename_i f x hx
      obtain ⟨p, p2, rfl⟩ := dCall_eq hx
      simp only [Bool.and_eq_true] at h
      obtain ⟨h1, h2⟩ := h
      obtain ⟨ef, b1, b2, b3, b4⟩ := isB_ok O h1
      subst ef
      have nx := nice_of h2
      refine PE.weak (pe_callTy call_int_str b1 b2 bt_int (pa_cons (ha _ h2) pa_nil (star_eq nx _ _)) b4 b3 (star_eq nx _ _) rfl) fun σ H Q ⟨env, g, γ, loc, R, q⟩ => ?_
      simp only [evE] at q
      refine seq1 (Rr := fun v H1 => ∃ a n, [v] = [V.str a] ∧ PySem.intText? a = some n ∧ a.length ≤ 640 ∧ Q (.int n) H1) R q fun d1 g2 v1 H2 γ2 R2 s2 p1 q2 => ?_
      obtain ⟨d, e1, q3⟩ := q2.okR
      have o1 := p1.opd R2
      cases hdr : dr g2 d1 with
      | str z =>
        rw [hdr] at o1 e1
        have := o1.str; subst this
        simp only [b1D] at e1
        split at e1
        · rename_i hz
          simp only [Option.map_eq_some_iff] at e1
          obtain ⟨n, e2, rfl⟩ := e1
          exact ⟨z, n, rfl, e2, hz, q3 _ H2 γ2 R2 s2 pst_int⟩
        · cases e1
      | _ => rw [hdr] at e1; simp [b1D] at e1
    · cases h
  | _ =>
    simp only [mtE] at h
    split at h
    · rename_i f x hx
      obtain ⟨p, p2, rfl⟩ := dCall_eq hx
      simp only [Bool.and_eq_true] at h
      obtain ⟨h1, h2⟩ := h
      obtain ⟨ef, b1, b2, b3, b4⟩ := isB_ok O h1
      subst ef
      have nx := nice_of h2
      first
      | exact one_b O ha h2 (fun t pa => pe_callB len_ok b1 b2 boot_len pa b4 b3 (star_eq nx _ _) rfl) (.inr (scal_b1 rfl))
      | exact one_b O ha h2 (fun t pa => pe_callB sorted_ok b1 b2 bt_sorted pa b4 b3 (star_eq nx _ _) rfl) (.inl rfl)
      | exact one_b O ha h2 (fun t pa => pe_callB (sum_ok O.calm) b1 b2 bt_sum pa b4 b3 (star_eq nx _ _) rfl) (.inr (scal_b1 rfl))
      | exact one_b O ha h2 (fun t pa => pe_callB (min_ok O.calm) b1 b2 bt_min pa b4 b3 (star_eq nx _ _) rfl) (.inr (scal_b1 rfl))
      | exact one_b O ha h2 (fun t pa => pe_callB (max_ok O.calm) b1 b2 bt_max pa b4 b3 (star_eq nx _ _) rfl) (.inr (scal_b1 rfl))
      | exact one_b O ha h2 (fun t pa => pe_callB (all_ok O.calm) b1 b2 bt_all pa b4 b3 (star_eq nx _ _) rfl) (.inr (scal_b1 rfl))
      | exact one_b O ha h2 (fun t pa => pe_callB (any_ok O.calm) b1 b2 bt_any pa b4 b3 (star_eq nx _ _) rfl) (.inr (scal_b1 rfl))
      | exact one_b O ha h2 (fun t pa => pe_callTy (list_ok O.calm) b1 b2 boot_list pa b4 b3 (star_eq nx _ _) rfl) (.inl rfl)
      | exact one_b O ha h2 (fun t pa => pe_callB abs_ok b1 b2 bt_abs pa b4 b3 (star_eq nx _ _) rfl) (.inr (scal_b1 rfl))
      | exact one_b O ha h2 (fun t pa => pe_callTy str_ok b1 b2 bt_str pa b4 b3 (star_eq nx _ _) rfl) (.inr (scal_b1 rfl))
    · cases h
theorem s_b2 {o : Bi2} {a b : Ex} (O : XOk S X C k W) (ha : ∀ e, mtE C a e = true → PE X e (tE S W a)) (hb : ∀ e, mtE C b e = true → PE X e (tE S W b)) (h : mtE C (.b2 o a b) e = true) : PE X e (tE S W (.b2 o a b)) := by
  simp only [mtE] at h
  split at h
  · rename_i f x y hx
    obtain ⟨p, p2, rfl⟩ := dCall_eq hx
    simp only [Bool.and_eq_true] at h
    obtain ⟨⟨h1, h2⟩, h3⟩ := h
    obtain ⟨ef, b1, b2, b3, b4⟩ := isB_ok O h1
    subst ef
    have nx := nice_of h2
    have ny := nice_of h3
    have pl : (backTo p2 (starEach [y] X.env)).any (·.1) = false := by rw [star_eq ny] <;> rfl
    have pa : PA X [x, y] (tCons (tE S W a) (tCons (tE S W b) tNil)) := pa_cons (ha _ h2) (pa_cons (hb _ h3) pa_nil (star_eq ny _ _)) (star_eq nx _ _)
    have pe : PE X (.Call (.Name (bi2Name o) p) [x, y] [] p2) (tCB (rB2 (X := X) o) (tCons (tE S W a) (tCons (tE S W b) tNil))) := by
      cases o with
      | min => exact pe_callB (min2_ok O.calm) b1 b2 (by decide +kernel) pa b4 b3 (star_eq nx _ _) pl
      | max => exact pe_callB (max2_ok O.calm) b1 b2 (by decide +kernel) pa b4 b3 (star_eq nx _ _) pl
    refine PE.weak pe fun σ H Q ⟨env, g, γ, loc, R, q⟩ => ?_
    simp only [evE] at q
    refine seq2 (f := fun x y g => okR (b2D o x y) g) (Rr := fun v w H1 => rB2 (X := X) o [v, w] H1 Q) O R q fun d1 d2 g2 v1 v2 H2 γ2 R2 s2 p1 p2 q2 => ?_
    obtain ⟨d, e1, q3⟩ := q2.okR
    have o1 := p1.op R2
    have o2 := p2.op R2
    rw [O.K] at o1 o2
    refine ⟨S.XR, _, γ2, _, _, d, _, _, rfl, o1, o2, e1, fun v H' got => ?_⟩
    rw [← O.K] at got
    obtain ⟨R3, s3, nw⟩ := got_fin R2 O.xr got
    exact q3 v H' γ2 R3 (s2.trans s3 R.cellne) (nw.back s2).rp
  · cases h
theorem rng_rp {K : PySem.W.Frag} {XR : Nat → Addr → Hp → Prop} {F : Addr → Prop} {γ : List Addr} {H : Hp} (lo : Int) : ∀ (l : List Nat), RpL K XR F γ H (l.map fun (k : Nat) => D.int (lo + (k : Nat))) (l.map fun (i : Nat) => V.int (lo + (i : Nat)))
  | [] => .nil
  | n :: r => .cons .int (rng_rp lo r)
theorem rngD_ok {lo hi : Int} {ds : List D} (h : rngD lo hi = some ds) : (-1000000 ≤ lo ∧ lo ≤ 1000000 ∧ -1000000 ≤ hi ∧ hi ≤ 1000000) ∧ ds = (List.range (hi - lo).toNat).map fun (k : Nat) => D.int (lo + (k : Nat)) := by
  unfold rngD at h
  split at h
  · rename_i hh; cases h; exact ⟨hh, rfl⟩
  · cases h
theorem s_lrng {a : Ex} (O : XOk S X C k W) (ha : ∀ e, mtE C a e = true → PE X e (tE S W a)) (h : mtE C (.lrng a) e = true) : PE X e (tE S W (.lrng a)) := by
  simp only [mtE] at h
  split at h
  · rename_i f x hx
    obtain ⟨p, p2, rfl⟩ := dCall_eq hx
    simp only [Bool.and_eq_true] at h
    obtain ⟨h1, h2⟩ := h
    split at h2
    · rename_i s y hy
      obtain ⟨p3, p4, e2⟩ := dCall_eq hy
      simp only at e2
      subst e2
      simp only [Bool.and_eq_true] at h2
      obtain ⟨h2, h3⟩ := h2
      obtain ⟨ef, b1, b2, b3, b4⟩ := isB_ok O h1
      obtain ⟨eg, c1, c2, c3, c4⟩ := isB_ok O h2
      subst ef eg
      refine PE.weak (pe_listRg O.calm b1 b2 (prg_1 c1 c2 (ha _ h3) (star_eq (nice_of h3) _ _)) rfl) fun σ H Q ⟨env, g, γ, loc, R, q⟩ => ?_
      simp only [evE] at q
      refine seq1 (Rr := fun x H1 => ∃ n, x = .int n ∧ RgOk 0 n ∧ ∀ q, H1 q = none → Q (.ref q) (upd H1 q (.lst (rgV 0 n)))) R q fun d1 g2 v1 H2 γ2 R2 s2 p1 q2 => ?_
      have o1 := p1.op R2
      cases d1 with
      | int n =>
        have := o1.int; subst this
        obtain ⟨xs, hx, q3⟩ := q2.bind.okO
        obtain ⟨hb, rfl⟩ := rngD_ok hx
        refine ⟨n, rfl, ⟨by omega, by omega, by omega, by omega, by omega⟩, fun l hl => ?_⟩
        obtain ⟨R3, s3, nw⟩ := got_fin R2 O.xr (got_lst hl (rng_rp 0 (List.range (n - 0).toNat)))
        exact q3 _ _ γ2 R3 (s2.trans s3 R.cellne) (nw.back s2)
      | _ => exact q2.elim
    · cases h2
  · cases h
theorem s_isI {t : Ty} {a : Ex} (O : XOk S X C k W) (ha : ∀ e, mtE C a e = true → PE X e (tE S W a)) (h : mtE C (.isI t a) e = true) : PE X e (tE S W (.isI t a)) := by
  simp only [mtE] at h
  split at h
  · rename_i f x y hx
    obtain ⟨p, p2, rfl⟩ := dCall_eq hx
    simp only [Bool.and_eq_true] at h
    obtain ⟨⟨h1, h2⟩, h3⟩ := h
    split at h3
    · rename_i n hn
      obtain ⟨p3, rfl⟩ := dName_eq hn
      obtain ⟨ef, b1, b2, b3, b4⟩ := isB_ok O h1
      obtain ⟨eg, c1, c2, c3, c4⟩ := isB_ok O h3
      subst ef eg
      have nx := nice_of h2
      have hv : bootBuiltins (tyName t) = some (.type (tyS t)) := by cases t <;> decide +kernel
      refine PE.weak (pe_callB (isT_ok t) b1 b2 bt_isi (pa_cons (ha _ h2) (pa_cons (pe_bltn (v := .ty (tyS t)) c1 c2 hv rfl c4 c3) pa_nil rfl) (star_eq nx _ _)) b4 b3 (star_eq nx _ _) rfl) fun σ H Q ⟨env, g, γ, loc, R, q⟩ => ?_
      simp only [evE] at q
      refine seq1 (Rr := fun v H1 => rIsT (X := X) (tyS t) t [v, .ty (tyS t)] H1 Q) R q fun d1 g2 v1 H2 γ2 R2 s2 p1 q2 => ?_
      obtain ⟨b, e1, q3⟩ := q2.okB
      have o1 := p1.op R2
      rw [O.K] at o1
      exact ⟨S.XR, _, γ2, _, b, _, rfl, o1, e1, q3 _ H2 γ2 R2 s2 pst_bl⟩
    · cases h3
  · cases h
def rCntB (K : PySem.W.Frag) : V → List V → Hp → VK → Prop := fun x xs H Q => ∃ (p : Addr) (ns : List Bool) (k : Bool), x = .ref p ∧ xs = [.bl k] ∧ SqL K H p (ns.map V.bl) ∧ Q (.int (ns.count k : Nat)) H
def eqb (k : Bool) (v : Value) : Bool := match v with
  | .bool n => n == k
  | _ => false
theorem bools_vals : ∀ {us : List Value} {ns : List Bool}, Vals (ns.map V.bl) us → us = ns.map Value.bool
  | [], [], _ => rfl
  | u :: us, n :: ns, .cons r q => by
    have e : u = Value.bool n := r
    rw [e, bools_vals q]; rfl
theorem eqb_count (k : Bool) : ∀ ns : List Bool, (ns.map Value.bool).countP (eqb k) = ns.count k
  | [] => rfl
  | n :: ns => by
    have ih := eqb_count k ns
    rw [List.map_cons, List.countP_cons, List.count_cons, ih]; rfl
theorem mt_lcountB : MtR X "list.count" (rCntB X.K) := by
  intro pins s σ H x xs v us Q I rx rxs h
  obtain ⟨p, ns, k, rfl, rfl, hs, q⟩ := h
  cases rx
  obtain ⟨u, rfl, ru⟩ := rxs.one
  cases ru
  obtain ⟨its, rv, ⟨⟨cls, dd, data, sl⟩, n, ho, hc, hdn, hd⟩, hlen⟩ := I.list hs
  simp only at hc hd
  subst hc hd
  have hi := bools_vals rv
  subst hi
  refine call_meets PySem.F.slot_list_count ⟨_, ho, rfl⟩ PySem.F.entry_list_count (PySem.F.args_list_count_2 _ _)
    (SeqAt.list_countAt p (ns.map Value.bool).toArray n dd sl (.bool k) (eqb k)) ⟨ho, fun y hy => ?_, ?_⟩
  · obtain ⟨b, _, rfl⟩ := List.mem_map.mp (show y ∈ ns.map Value.bool by simpa using hy)
    exact SeqAt.EqAt.bool_bool b k
  · have ec : (ns.map Value.bool).toArray.toList.countP (eqb k) = ns.count k := eqb_count k ns
    refine ⟨.int (ns.count k : Nat), H, I.tok _, ⟨s.toks, ?_⟩, q⟩
    show Value.int (((ns.map Value.bool).toArray.toList.countP (eqb k) : Nat) : Int) s.toks = Value.int ((ns.count k : Nat) : Int) s.toks
    rw [ec]
theorem s_meth {o : Me} {a b : Ex} (O : XOk S X C k W) (ha : ∀ e, mtE C a e = true → PE X e (tE S W a)) (hb : ∀ e, mtE C b e = true → PE X e (tE S W b)) (h : mtE C (.meth o a b) e = true) : PE X e (tE S W (.meth o a b)) := by
  simp only [mtE] at h
  split at h
  · rename_i x m y hx
    obtain ⟨p, p2, rfl, hl⟩ := dMeth_eq hx
    simp only [Bool.and_eq_true] at h
    obtain ⟨⟨⟨h1, h2⟩, h3⟩, h4⟩ := h
    have ny := nice_of h3
    have hu : X.A.units + 65 < cLine := by have := O.room.un; omega
    cases o with
    | index =>
      have em : m = meName .index := by simpa using h1
      subst em
      refine PE.weak (pe_bm PySem.F.plainAttrs_list PySem.F.slot_list_index PySem.F.type_list_index (idx_ok hu) (ha _ h2) (pa_cons (hb _ h3) pa_nil (star_eq ny _ _)) (recv_eq h4 _ _) (by rw [star_eq ny]; rfl) hl (star_eq ny _ _) rfl) fun σ H Q ⟨env, g, γ, loc, R, q⟩ => ?_
      simp only [evE] at q
      refine ⟨env, g, γ, loc, R, q.bind.mono (fun d1 g1 q1 v1 H1 γ1 R1 s1 p1 => ?_) fun _ _ x => x⟩
      have w1 := p1.val
      have o1 := w1.op R1
      split at q1
      · rename_i hr
        cases d1 with
        | lst xs =>
          obtain ⟨l, ys, rfl, e1, r1⟩ := o1
          refine ⟨.inl ⟨rfl, _, SqL.of e1⟩, ?_⟩
          refine ⟨env, g1, γ1, loc, R1, q1.bind.mono (fun d2 g2 q2 v2 H2 γ2 R2 s2 p2 => ?_) fun c g' => Er.trans R s1⟩
          obtain ⟨d, e3, q3⟩ := q2.okR
          simp only [meD] at e3
          split at e3
          · rename_i hp
            obtain ⟨hp1, hp2⟩ := Bool.and_eq_true_iff.mp hp
            simp only [Option.map_eq_some_iff] at e3
            obtain ⟨n, e3, rfl⟩ := e3
            have a1 := (w1.step s2 R1 O.xr).op R2
            have a2 := p2.val.op R2
            rw [O.K] at a1 a2
            exact ⟨S.XR, _, γ2, _, _, n, _, rfl, a1, a2, hp1, hp2, e3, q3 _ H2 γ2 R2 (s1.trans s2 R.cellne) pst_int⟩
          · cases e3
        | _ => cases hr
      · exact q1.elim
    | count =>
      have em : m = meName .count := by simpa using h1
      subst em
      refine PE.weak (pe_bm PySem.F.plainAttrs_list PySem.F.slot_list_count PySem.F.type_list_count mt_lcountB (ha _ h2) (pa_cons (hb _ h3) pa_nil (star_eq ny _ _)) (recv_eq h4 _ _) (by rw [star_eq ny]; rfl) hl (star_eq ny _ _) rfl) fun σ H Q ⟨env, g, γ, loc, R, q⟩ => ?_
      simp only [evE] at q
      refine ⟨env, g, γ, loc, R, q.bind.mono (fun d1 g1 q1 v1 H1 γ1 R1 s1 p1 => ?_) fun _ _ x => x⟩
      have w1 := p1.val
      have o1 := w1.op R1
      split at q1
      · rename_i hr
        cases d1 with
        | lst xs =>
          obtain ⟨l, ys, rfl, e1, r1⟩ := o1
          refine ⟨.inl ⟨rfl, _, SqL.of e1⟩, ?_⟩
          refine ⟨env, g1, γ1, loc, R1, q1.bind.mono (fun d2 g2 q2 v2 H2 γ2 R2 s2 p2 => ?_) fun c g' => Er.trans R s1⟩
          obtain ⟨d, e3, q3⟩ := q2.okR
          have a2 := p2.val.op R2
          cases d2 with
          | bl kb =>
            simp only [meD, Option.map_eq_some_iff] at e3
            obtain ⟨ns, e3, rfl⟩ := e3
            have := a2.bl; subst this
            obtain ⟨l2, ys2, e4, e5, r2⟩ := (w1.step s2 R1 O.xr).op R2
            cases e4
            obtain ⟨rfl, _⟩ := r2.getBs e3
            exact ⟨l, ns, kb, rfl, rfl, SqL.of e5, q3 _ H2 γ2 R2 (s1.trans s2 R.cellne) pst_int⟩
          | _ => simp [meD] at e3
        | _ => cases hr
      · exact q1.elim
    | join =>
      have em : m = meName .join := by simpa using h1
      subst em
      refine PE.weak (pe_bm PySem.F.plainAttrs_str PySem.F.slot_str_join PySem.F.type_str_join mt_join (ha _ h2) (pa_cons (hb _ h3) pa_nil (star_eq ny _ _)) (recv_eq h4 _ _) (by rw [star_eq ny]; rfl) hl (star_eq ny _ _) rfl) fun σ H Q ⟨env, g, γ, loc, R, q⟩ => ?_
      simp only [evE] at q
      refine ⟨env, g, γ, loc, R, q.bind.mono (fun d1 g1 q1 v1 H1 γ1 R1 s1 p1 => ?_) fun _ _ x => x⟩
      have w1 := p1.val
      have o1 := w1.op R1
      split at q1
      · rename_i hr
        cases d1 with
        | str z =>
          have := o1.str; subst this
          refine ⟨rfl, ?_⟩
          refine ⟨env, g1, γ1, loc, R1, q1.bind.mono (fun d2 g2 q2 v2 H2 γ2 R2 s2 p2 => ?_) fun c g' => Er.trans R s1⟩
          obtain ⟨d, e3, q3⟩ := q2.okR
          have a2 := p2.val.op R2
          cases d2 with
          | lst xs =>
            obtain ⟨l, ys, rfl, e5, r2⟩ := a2.lst
            simp only [meD] at e3
            split at e3
            · rename_i ss hss
              split at e3
              · rename_i hz
                cases e3
                obtain ⟨rfl, _⟩ := r2.getSs hss
                exact ⟨z, l, ss, rfl, rfl, .inl (SqL.of e5), by omega, q3 _ H2 γ2 R2 (s1.trans s2 R.cellne) (Rp.str : Rp S.K S.XR (Fp γ2 loc S.ext) γ2 H2 _ _)⟩
              · cases e3
            · cases e3
          | _ => simp [meD] at e3
        | _ => cases hr
      · exact q1.elim
    | split =>
      have em : m = meName .split := by simpa using h1
      subst em
      refine PE.weak (pe_bm PySem.F.plainAttrs_str PySem.F.slot_str_split PySem.F.type_str_split mt_split (ha _ h2) (pa_cons (hb _ h3) pa_nil (star_eq ny _ _)) (recv_eq h4 _ _) (by rw [star_eq ny]; rfl) hl (star_eq ny _ _) rfl) fun σ H Q ⟨env, g, γ, loc, R, q⟩ => ?_
      simp only [evE] at q
      refine ⟨env, g, γ, loc, R, q.bind.mono (fun d1 g1 q1 v1 H1 γ1 R1 s1 p1 => ?_) fun _ _ x => x⟩
      have w1 := p1.val
      have o1 := w1.op R1
      split at q1
      · rename_i hr
        cases d1 with
        | str z =>
          have := o1.str; subst this
          refine ⟨rfl, ?_⟩
          refine ⟨env, g1, γ1, loc, R1, q1.bind.mono (fun d2 g2 q2 v2 H2 γ2 R2 s2 p2 => ?_) fun c g' => Er.trans R s1⟩
          obtain ⟨d, e3, q3⟩ := q2.okR
          have a2 := p2.val.op R2
          cases d2 with
          | str zb =>
            have := a2.str; subst this
            simp only [meD] at e3
            split at e3
            · rename_i hz
              cases e3
              refine ⟨z, zb, rfl, rfl, hz.1, cap_le hz.2, fun l hl => ?_⟩
              obtain ⟨R3, s3, nw⟩ := got_fin R2 O.xr (got_lst hl (RpL.of_strs _))
              exact q3 _ _ γ2 R3 ((s1.trans s2 R.cellne).trans s3 R.cellne) ((nw.back s2).back s1).rp
            · cases e3
          | _ => simp [meD] at e3
        | _ => cases hr
      · exact q1.elim
  · cases h
end
end Tv

set_option Elab.async false
set_option linter.all false
set_option maxRecDepth 100000
/-! Soundness: what is walked, targets. -/
namespace Tv
open PySem PySem.Spec PyProof.Rows L2

/-- what a turn gives -/
def Yl (K : PySem.W.Frag) (XR : Nat → Addr → Hp → Prop) (F : Addr → Prop) (γ : List Addr) (H : Hp) (d : D) (x : V) (H' : Hp) : Prop :=
  (H' = H ∧ Rp K XR F γ H d x) ∨ ∃ T xs ds, H T = none ∧ H' = upd H T (.tup xs) ∧ x = .ref T ∧ d = .tup ds ∧ RpL K XR F γ H ds xs
/-- an operand's own list, later -/
def OwnStay (S : Se) (env : Env) (loc : Lc) (H2 : Hp) (γ2 : List Addr) (F2 : Addr → Prop) : Prop := ∀ i a ds, i ∈ S.M → loc i = some a → gt env i = some (.lst ds) → ∃ ys, H2 a = some (.lst ys) ∧ RpL S.K S.XR F2 γ2 H2 ds ys
structure Goes (S : Se) (bor : Bool) (env : Env) (loc : Lc) (γ : List Addr) (H : Hp) (J : It) (ds : List D) : Prop where
  go : ∀ H2 γ2 F2, Mono S.XR (Fp γ loc S.ext) γ H F2 γ2 H2 → (bor = true → OwnStay S env loc H2 γ2 F2) → ∀ i d, ds[i]? = some d → J.go i H2 ∧ ∀ x H3, J.yld i H2 x H3 → Yl S.K S.XR F2 γ2 H2 d x H3
  stop : ∀ H2 γ2 F2, Mono S.XR (Fp γ loc S.ext) γ H F2 γ2 H2 → (bor = true → OwnStay S env loc H2 γ2 F2) → ∀ i, ds.length ≤ i → J.stop i H2
def borI : Ex → Bool
  | .iof a => isBor a
  | .ienum a => isBor a
  | .izip a b => isBor a || isBor b
  | _ => false
def tI (S : Se) (W : WX) (x : Ex) : TI := fun σ H R => ∃ env g γ loc, S.R env g σ H γ loc ∧ Sat (evI S.T x env g)
  (fun ds g' => ∀ J H' γ', S.R env g' σ H' γ' loc → StE γ loc H γ' H' → Goes S (borI x) env loc γ' H' J ds → R J H') (Er S W env σ H γ loc)

section
variable {S : Se} {X : Cx} {C : Ct} {k : Nat} {W : WX} {e : Expr}
theorem RpL.none_of {K : PySem.W.Frag} {XR : Nat → Addr → Hp → Prop} {F : Addr → Prop} {γ : List Addr} {H : Hp} {ds : List D} {xs : List V} (r : RpL K XR F γ H ds xs) {i : Nat} (h : ds.length ≤ i) : xs.length ≤ i := by rw [r.len]; exact h
/-- a list operand, now and later -/
theorem lst_later {x : Ex} {env : Env} {loc : Lc} {γ' : List Addr} {H H' : Hp} {g : G} {σ : L2.St} {xs : List D} {v : V} (R : S.R env g σ H' γ' loc) (p : Pst S (fl x) env loc H γ' H' (.lst xs) v) :
    ∃ a, v = .ref a ∧ (∃ ys, H' a = some (.lst ys)) ∧ ∀ H2 γ2 F2, Mono S.XR (Fp γ' loc S.ext) γ' H' F2 γ2 H2 → (isBor x = true → OwnStay S env loc H2 γ2 F2) → ∃ ys, H2 a = some (.lst ys) ∧ RpL S.K S.XR F2 γ2 H2 xs ys := by
  cases hb : isBor x with
  | true =>
    have hf : fl x = .bor := by cases x <;> first | rfl | cases hb
    rw [hf] at p
    obtain ⟨i, a, hm, hl, rfl, hd⟩ := p
    obtain ⟨a', ys, es, e1, e2, _, e4, r⟩ := R.slotM i _ hm hd
    rw [hl] at e2; cases e2
    exact ⟨a, rfl, ⟨ys, e4⟩, fun H2 γ2 F2 m os => os rfl i a xs hm hl hd⟩
  | false =>
    have r := p.rp (isBor_fl hb)
    unfold Rp at r
    obtain ⟨a, ys, rfl, ⟨e1, f1⟩, r⟩ := r
    exact ⟨a, rfl, ⟨ys, e1⟩, fun H2 γ2 F2 m _ => ⟨ys, (m.ls _ _ e1 f1).1, r.mono m⟩⟩
theorem i_of {a : Ex} {tg : Expr} (O : XOk S X C k W) (ha : ∀ e, mtE C a e = true → PE X e (tE S W a)) {tx : Tg} (h : mtI C tx (.iof a) e = true) : PI X tg e (tI S W (.iof a)) := by
  have h' : mtE C a e = true := by simpa [mtI] using h
  refine PI.weak (pi_list (ha _ h')) fun σ H Q ⟨env, g, γ, loc, R, q⟩ => ?_
  simp only [evI] at q
  refine ⟨env, g, γ, loc, R, q.bind.mono (fun d g1 q1 v H1 γ1 R1 s1 p1 => ?_) fun _ _ x => x⟩
  cases d with
  | lst xs =>
    obtain ⟨p, rfl, ⟨ys, e1⟩, lat⟩ := lst_later R1 p1
    refine ⟨p, rfl, ⟨ys, SqL.of e1⟩, q1 _ H1 γ1 R1 s1 ⟨fun H2 γ2 F2 m os i d hd => ?_, fun H2 γ2 F2 m os i hi => ?_⟩⟩
    · obtain ⟨zs, e2, r2⟩ := lat H2 γ2 F2 m os
      obtain ⟨z, hz, rz⟩ := r2.get hd
      refine ⟨⟨zs, z, SqL.of e2, hz⟩, fun x H3 ⟨e3, y3⟩ => ?_⟩
      subst e3
      have := y3 zs (SqL.of e2)
      rw [hz] at this; cases this
      exact .inl ⟨rfl, rz⟩
    · obtain ⟨zs, e2, r2⟩ := lat H2 γ2 F2 m os
      exact ⟨zs, SqL.of e2, r2.none_of hi⟩
  | _ => exact q1.elim
theorem i_tup {a : Ex} {tg : Expr} (O : XOk S X C k W) (ha : ∀ e, mtE C a e = true → PE X e (tE S W a)) {tx : Tg} (h : mtI C tx (.itup a) e = true) : PI X tg e (tI S W (.itup a)) := by
  have h' : mtE C a e = true := by simpa [mtI] using h
  refine PI.weak (pi_tup (ha _ h')) fun σ H Q ⟨env, g, γ, loc, R, q⟩ => ?_
  simp only [evI] at q
  refine ⟨env, g, γ, loc, R, q.bind.mono (fun d g1 q1 v H1 γ1 R1 s1 p1 => ?_) fun _ _ x => x⟩
  cases d with
  | tup xs =>
    have o1 := p1.val.op R1
    unfold OpV Rp at o1
    obtain ⟨p, ys, rfl, e1, r1⟩ := o1
    rw [O.K] at e1
    refine ⟨p, rfl, ⟨ys, e1⟩, q1 _ H1 γ1 R1 s1 ⟨fun H2 γ2 F2 m os i d hd => ?_, fun H2 γ2 F2 m os i hi => ?_⟩⟩
    · have e2 := SqT.mono m e1
      have r2 := r1.mono m
      obtain ⟨z, hz, rz⟩ := r2.get hd
      refine ⟨⟨ys, z, e2, hz⟩, fun x H3 ⟨e3, y3⟩ => ?_⟩
      subst e3
      have := y3 ys e2
      rw [hz] at this; cases this
      exact .inl ⟨rfl, rz⟩
    · exact ⟨ys, SqT.mono m e1, (r1.mono m).none_of hi⟩
  | _ => exact q1.elim
theorem chars_get {s : Str} {i : Nat} {d : D} (h : (chars s)[i]? = some d) : ∃ c, s.cps[i]? = some c ∧ d = .str ⟨#[c]⟩ := by
  unfold chars at h
  rw [List.getElem?_map] at h
  simp only [Option.map_eq_some_iff, Array.getElem?_toList] at h
  obtain ⟨c, h1, rfl⟩ := h
  exact ⟨c, h1, rfl⟩
theorem i_str {a : Ex} {tg : Expr} (O : XOk S X C k W) (ha : ∀ e, mtE C a e = true → PE X e (tE S W a)) {tx : Tg} (h : mtI C tx (.istr a) e = true) : PI X tg e (tI S W (.istr a)) := by
  have h' : mtE C a e = true := by simpa [mtI] using h
  refine PI.weak (pi_str (ha _ h')) fun σ H Q ⟨env, g, γ, loc, R, q⟩ => ?_
  simp only [evI] at q
  refine ⟨env, g, γ, loc, R, q.bind.mono (fun d g1 q1 v H1 γ1 R1 s1 p1 => ?_) fun _ _ x => x⟩
  cases d with
  | str z =>
    have := (p1.val.op R1).str; subst this
    refine ⟨z, rfl, q1 _ H1 γ1 R1 s1 ⟨fun H2 γ2 F2 m os i d hd => ?_, fun H2 γ2 F2 m os i hi => ?_⟩⟩
    · obtain ⟨c, hc, rfl⟩ := chars_get hd
      refine ⟨(Array.getElem?_eq_some_iff.mp hc).1, fun x H3 ⟨e3, c', hc', ex⟩ => ?_⟩
      subst e3 ex
      rw [hc] at hc'; cases hc'
      exact .inl ⟨rfl, .str⟩
    · show z.cps.size ≤ i
      unfold chars at hi
      simpa using hi
  | _ => exact q1.elim
theorem i_rng1 {a : Ex} {tg : Expr} (O : XOk S X C k W) (ha : ∀ e, mtE C a e = true → PE X e (tE S W a)) {tx : Tg} (h : mtI C tx (.irng1 a) e = true) : PI X tg e (tI S W (.irng1 a)) := by
  simp only [mtI] at h
  split at h
  · rename_i f x hx
    obtain ⟨p, p2, rfl⟩ := dCall_eq hx
    simp only [Bool.and_eq_true] at h
    obtain ⟨h1, h2⟩ := h
    obtain ⟨ef, b1, b2, b3, b4⟩ := isB_ok O h1
    subst ef
    have nx := nice_of h2
    refine PI.weak (pi_range1 b1 b2 (pa_cons (ha _ h2) pa_nil (star_eq nx _ _)) (star_eq nx _ _)) fun σ H Q ⟨env, g, γ, loc, R, q⟩ => ?_
    simp only [evI] at q
    refine seq1 (Rr := fun v H1 => ∃ j : Int, [v] = [V.int j] ∧ -(2 ^ 62) ≤ j ∧ j < 2 ^ 62 ∧ Q (Itr 0 j.toNat) H1) R q fun d1 g2 v1 H2 γ2 R2 s2 p1 q2 => ?_
    cases d1 with
    | int n =>
      have := (p1.op R2).int; subst this
      obtain ⟨ds, hd, q3⟩ := Sat.okO q2
      obtain ⟨hb, rfl⟩ := rngD_ok hd
      refine ⟨n, rfl, by omega, by omega, q3 _ H2 γ2 R2 s2 ⟨fun H3 γ3 F3 m os i d hd => ?_, fun H3 γ3 F3 m os i hi => ?_⟩⟩
      · rw [List.getElem?_map] at hd
        simp only [Option.map_eq_some_iff] at hd
        obtain ⟨j, hj, rfl⟩ := hd
        obtain ⟨hj1, hj2⟩ := List.getElem?_eq_some_iff.mp hj
        rw [List.getElem_range] at hj2
        subst hj2
        rw [List.length_range] at hj1
        refine ⟨?_, fun y H4 ⟨e4, ey⟩ => ?_⟩
        · show i < n.toNat
          have : (n - 0).toNat = n.toNat := by rw [Int.sub_zero]
          omega
        · subst e4 ey
          exact .inl ⟨rfl, .int⟩
      · rw [List.length_map, List.length_range, Int.sub_zero] at hi
        exact hi
    | _ => exact q2.elim
  · cases h
theorem i_rng2 {a b : Ex} {tg : Expr} (O : XOk S X C k W) (ha : ∀ e, mtE C a e = true → PE X e (tE S W a)) (hb : ∀ e, mtE C b e = true → PE X e (tE S W b)) {tx : Tg} (h : mtI C tx (.irng2 a b) e = true) : PI X tg e (tI S W (.irng2 a b)) := by
  simp only [mtI] at h
  split at h
  · rename_i f x y hx
    obtain ⟨p, p2, rfl⟩ := dCall_eq hx
    simp only [Bool.and_eq_true] at h
    obtain ⟨⟨h1, h2⟩, h3⟩ := h
    obtain ⟨ef, b1, b2, b3, b4⟩ := isB_ok O h1
    subst ef
    have nx := nice_of h2
    have ny := nice_of h3
    refine PI.weak (pi_range2 b1 b2 (pa_cons (ha _ h2) (pa_cons (hb _ h3) pa_nil (star_eq ny _ _)) (star_eq nx _ _)) (by rw [star_eq nx, star_eq ny] <;> rfl) (star_eq ny _ _)) fun σ H Q ⟨env, g, γ, loc, R, q⟩ => ?_
    simp only [evI] at q
    refine seq2 (f := fun x y g => match x, y with
      | .int m, .int n => okO (rngD m n) g
      | _, _ => .stuck) (Rr := fun v w H1 => ∃ i j : Int, [v, w] = [V.int i, V.int j] ∧ (-(2 ^ 62) ≤ i ∧ i < 2 ^ 62 ∧ -(2 ^ 62) ≤ j ∧ j < 2 ^ 62) ∧ Q (Itr i (j - i).toNat) H1) O R q fun d1 d2 g2 v1 v2 H2 γ2 R2 s2 p1 p2 q2 => ?_
    cases d1 with
    | int m =>
      cases d2 with
      | int n =>
        have := (p1.op R2).int; subst this
        have := (p2.op R2).int; subst this
        obtain ⟨ds, hd, q3⟩ := Sat.okO q2
        obtain ⟨hb, rfl⟩ := rngD_ok hd
        refine ⟨m, n, rfl, ⟨by omega, by omega, by omega, by omega⟩, q3 _ H2 γ2 R2 s2 ⟨fun H3 γ3 F3 m os i d hd => ?_, fun H3 γ3 F3 m os i hi => ?_⟩⟩
        · rw [List.getElem?_map] at hd
          simp only [Option.map_eq_some_iff] at hd
          obtain ⟨j, hj, rfl⟩ := hd
          obtain ⟨hj1, hj2⟩ := List.getElem?_eq_some_iff.mp hj
          rw [List.getElem_range] at hj2
          subst hj2
          rw [List.length_range] at hj1
          refine ⟨hj1, fun y H4 ⟨e4, ey⟩ => ?_⟩
          subst e4 ey
          exact .inl ⟨rfl, .int⟩
        · rw [List.length_map, List.length_range] at hi
          exact hi
      | _ => exact q2.elim
    | _ => exact q2.elim
  · cases h
theorem enum_get {xs : List D} {i : Nat} {d : D} (h : (enumD xs)[i]? = some d) : ∃ x, xs[i]? = some x ∧ d = .tup [.int i, x] := by
  unfold enumD at h
  rw [List.getElem?_map] at h
  simp only [Option.map_eq_some_iff] at h
  obtain ⟨⟨x, j⟩, h1, rfl⟩ := h
  rw [List.getElem?_zipIdx] at h1
  simp only [Option.map_eq_some_iff] at h1
  obtain ⟨y, h2, h3⟩ := h1
  cases h3
  exact ⟨_, h2, by simp⟩
theorem i_enum {a : Ex} {tg : Expr} (O : XOk S X C k W) (ha : ∀ e, mtE C a e = true → PE X e (tE S W a)) {tx : Tg} (ht : isTup tx = true → ∃ elts kk tpos, tg = .Tuple elts kk tpos) (h : mtI C tx (.ienum a) e = true) : PI X tg e (tI S W (.ienum a)) := by
  simp only [mtI] at h
  split at h
  · rename_i f x hx
    obtain ⟨p, p2, rfl⟩ := dCall_eq hx
    simp only [Bool.and_eq_true] at h
    obtain ⟨⟨h1, hk⟩, h2⟩ := h
    obtain ⟨elts, kk, tpos, rfl⟩ := ht hk
    obtain ⟨ef, b1, b2, b3, b4⟩ := isB_ok O h1
    subst ef
    have nx := nice_of h2
    refine PI.weak (pi_enum b1 b2 (pa_cons (ha _ h2) pa_nil (star_eq nx _ _)) (star_eq nx _ _)) fun σ H Q ⟨env, g, γ, loc, R, q⟩ => ?_
    simp only [evI] at q
    refine ⟨env, g, γ, loc, R, q.bind.mono (fun d g1 q1 v H1 γ1 R1 s1 p1 => ?_) fun _ _ x => x⟩
    cases d with
    | lst xs =>
      obtain ⟨l, rfl, ⟨ys, e1⟩, lat⟩ := lst_later R1 p1
      refine ⟨l, ys, rfl, SqL.of e1, q1 _ H1 γ1 R1 s1 ⟨fun H2 γ2 F2 m os i d hd => ?_, fun H2 γ2 F2 m os i hi => ?_⟩⟩
      · obtain ⟨zs, e2, r2⟩ := lat H2 γ2 F2 m os
        obtain ⟨w, hw, rfl⟩ := enum_get hd
        obtain ⟨z, hz, rz⟩ := r2.get hw
        refine ⟨⟨zs, z, SqL.of e2, hz⟩, fun x H3 ⟨T, y, ex, hT, e3, y3⟩ => ?_⟩
        have := y3 zs (SqL.of e2)
        rw [hz] at this; cases this
        exact .inr ⟨T, _, _, hT, e3, ex, rfl, .cons .int (.cons rz .nil)⟩
      · obtain ⟨zs, e2, r2⟩ := lat H2 γ2 F2 m os
        refine ⟨zs, SqL.of e2, r2.none_of ?_⟩
        unfold enumD at hi
        simpa using hi
    | _ => exact q1.elim
  · cases h
theorem zip_get {xs ys : List D} {i : Nat} {d : D} (h : (zipD xs ys)[i]? = some d) : ∃ x y, xs[i]? = some x ∧ ys[i]? = some y ∧ d = .tup [x, y] := by
  unfold zipD at h
  rw [List.getElem?_map] at h
  simp only [Option.map_eq_some_iff] at h
  obtain ⟨⟨x, y⟩, h1, rfl⟩ := h
  obtain ⟨h2, h3⟩ := List.getElem?_zip_eq_some.mp h1
  exact ⟨x, y, h2, h3, rfl⟩
theorem Pst.later {x : Ex} {env : Env} {loc : Lc} {γ' γ2 : List Addr} {H H' H2 : Hp} {g : G} {σ : L2.St} {d : D} {v : V} (R : S.R env g σ H' γ' loc) (hx : XRok S.XR) (s : StE γ' loc H' γ2 H2) (p : Pst S (fl x) env loc H γ' H' d v) : Pst S (if isBor x then .bor else .any) env loc H γ2 H2 d v := by
  cases hb : isBor x with
  | true =>
    have hf : fl x = .bor := by cases x <;> first | rfl | cases hb
    rw [hf] at p
    exact p
  | false =>
    have r := p.rp (isBor_fl hb)
    show Rp S.K S.XR _ γ2 H2 d v
    exact r.mono (s.mono (loc' := loc) R hx)
theorem lst_later2 {b : Bool} {env : Env} {loc : Lc} {γ' : List Addr} {H H' : Hp} {g : G} {σ : L2.St} {xs : List D} {v : V} (R : S.R env g σ H' γ' loc) (p : Pst S (if b then .bor else .any) env loc H γ' H' (.lst xs) v) :
    ∃ a, v = .ref a ∧ (∃ ys, H' a = some (.lst ys)) ∧ ∀ H2 γ2 F2, Mono S.XR (Fp γ' loc S.ext) γ' H' F2 γ2 H2 → (b = true → OwnStay S env loc H2 γ2 F2) → ∃ ys, H2 a = some (.lst ys) ∧ RpL S.K S.XR F2 γ2 H2 xs ys := by
  cases b with
  | true =>
    obtain ⟨i, a, hm, hl, rfl, hd⟩ := p
    obtain ⟨a', ys, es, e1, e2, _, e4, r⟩ := R.slotM i _ hm hd
    rw [hl] at e2; cases e2
    exact ⟨a, rfl, ⟨ys, e4⟩, fun H2 γ2 F2 m os => os rfl i a xs hm hl hd⟩
  | false =>
    have r : Rp S.K S.XR _ γ' H' (.lst xs) v := p
    unfold Rp at r
    obtain ⟨a, ys, rfl, ⟨e1, f1⟩, r⟩ := r
    exact ⟨a, rfl, ⟨ys, e1⟩, fun H2 γ2 F2 m _ => ⟨ys, (m.ls _ _ e1 f1).1, r.mono m⟩⟩
theorem i_zip {a b : Ex} {tg : Expr} (O : XOk S X C k W) (ha : ∀ e, mtE C a e = true → PE X e (tE S W a)) (hb : ∀ e, mtE C b e = true → PE X e (tE S W b)) {tx : Tg} (ht : isTup tx = true → ∃ elts kk tpos, tg = .Tuple elts kk tpos) (h : mtI C tx (.izip a b) e = true) : PI X tg e (tI S W (.izip a b)) := by
  simp only [mtI] at h
  split at h
  · rename_i f x y hx
    obtain ⟨p, p2, rfl⟩ := dCall_eq hx
    simp only [Bool.and_eq_true] at h
    obtain ⟨⟨⟨h1, hk⟩, h2⟩, h3⟩ := h
    obtain ⟨elts, kk, tpos, rfl⟩ := ht hk
    obtain ⟨ef, b1, b2, b3, b4⟩ := isB_ok O h1
    subst ef
    have nx := nice_of h2
    have ny := nice_of h3
    have pl : (backTo p2 (starEach [y] X.env)).any (·.1) = false := by rw [star_eq ny] <;> rfl
    refine PI.weak (pi_zip b1 b2 (pa_cons (ha _ h2) (pa_cons (hb _ h3) pa_nil (star_eq ny _ _)) (star_eq nx _ _)) (star_eq nx _ _) pl) fun σ H Q ⟨env, g, γ, loc, R, q⟩ => ?_
    simp only [evI] at q
    refine ⟨env, g, γ, loc, R, q.bind.mono (fun d g1 q1 v H1 γ1 R1 s1 p1 => ?_) fun _ _ x => x⟩
    refine ⟨env, g1, γ1, loc, R1, q1.bind.mono (fun d2 g2 q2 v2 H2 γ2 R2 s2 p2 => ?_) fun c g' => Er.trans R s1⟩
    have s12 := s1.trans s2 R.cellne
    cases d with
    | lst xs =>
      cases d2 with
      | lst ys =>
        obtain ⟨l, rfl, ⟨us, e1⟩, lat⟩ := lst_later2 R2 (p1.later R1 O.xr s2)
        obtain ⟨l2, rfl, ⟨ws, e2⟩, lat2⟩ := lst_later R2 p2
        refine ⟨l, l2, us, ws, rfl, SqL.of e1, SqL.of e2, q2 _ H2 γ2 R2 s12 ⟨fun H3 γ3 F3 m os i d hd => ?_, fun H3 γ3 F3 m os i hi => ?_⟩⟩
        · obtain ⟨zs, e3, r3⟩ := lat H3 γ3 F3 m (fun hb => os (by simp [borI, hb]))
          obtain ⟨zt, e4, r4⟩ := lat2 H3 γ3 F3 m (fun hb => os (by simp [borI, hb]))
          obtain ⟨w1, w2, hw1, hw2, rfl⟩ := zip_get hd
          obtain ⟨z1, hz1, rz1⟩ := r3.get hw1
          obtain ⟨z2, hz2, rz2⟩ := r4.get hw2
          refine ⟨⟨zs, zt, z1, z2, SqL.of e3, SqL.of e4, hz1, hz2⟩, fun x H4 ⟨T, y1, y2, ex, hT, e5, y3, y4⟩ => ?_⟩
          have := y3 zs (SqL.of e3)
          rw [hz1] at this; cases this
          have := y4 zt (SqL.of e4)
          rw [hz2] at this; cases this
          exact .inr ⟨T, _, _, hT, e5, ex, rfl, .cons rz1 (.cons rz2 .nil)⟩
        · obtain ⟨zs, e3, r3⟩ := lat H3 γ3 F3 m (fun hb => os (by simp [borI, hb]))
          obtain ⟨zt, e4, r4⟩ := lat2 H3 γ3 F3 m (fun hb => os (by simp [borI, hb]))
          refine ⟨zs, zt, SqL.of e3, SqL.of e4, ?_⟩
          unfold zipD at hi
          rw [List.length_map, List.length_zip] at hi
          rw [r3.len, r4.len]
          omega
      | _ => exact q2.elim
    | _ => exact absurd q2 (by cases d2 <;> exact id)
  · cases h

/-! ### targets -/
def gNames : List Nat → TGs
  | [] => gNil
  | i :: is => gCons (gName i) (gNames is)
def gT (K : PySem.W.Frag) : Tg → TG
  | .one i => gName i
  | .tup is => gTup K is.length (gNames is)
theorem isTg_ok {i : Nat} {x : Str} (O : XOk S X C k W) (h : C.isTg i x = true) : X.N[i]? = some x ∧ L2.Loc X.env.scope x ∧ (X.fn x = true ∨ X.env.scope.names.lookup x = some .local) := by
  unfold Ct.isTg at h
  simp only [Bool.and_eq_true, decide_eq_true_eq] at h
  obtain ⟨h1, h2⟩ := h
  refine ⟨by rw [O.N]; exact h1, ?_⟩
  unfold L2.Loc
  rw [O.sc, O.fn]
  split at h2
  · rename_i q; exact ⟨.inl q, .inr q⟩
  · rename_i q; exact ⟨.inr q, .inl h2⟩
  · cases h2
theorem pg_one {i : Nat} (O : XOk S X C k W) (h : mtTg C (.one i) e = true) : PG X e (gName i) := by
  simp only [mtTg] at h
  split at h
  · rename_i x hx
    obtain ⟨p, rfl⟩ := dName_eq hx
    simp only [Bool.and_eq_true] at h
    obtain ⟨n1, n2, n3⟩ := isTg_ok O h.1
    exact pg_name (by rw [O.N]; exact O.nd) n1 n2 n3
  · cases h
theorem pgs_names (O : XOk S X C k W) : ∀ {is : List Nat} {es : List Expr}, mtTgs C is es = true → PGs X es (gNames is) ∧ (assignEach es X.env).length = is.length ∧ (assignEach es X.env).findIdx? (·.1) = none
  | [], [], _ => ⟨pgs_nil, rfl, rfl⟩
  | [], _ :: _, h => by simp [mtTgs] at h
  | _ :: _, [], h => by simp [mtTgs] at h
  | i :: is, e :: es, h => by
    simp only [mtTgs, Bool.and_eq_true] at h
    obtain ⟨h1, h2⟩ := h
    obtain ⟨r1, r2, r3⟩ := pgs_names O h2
    have p1 : PG X e (gName i) := pg_one O (by simpa [mtTg] using h1)
    split at h1
    · rename_i x hx
      obtain ⟨p, rfl⟩ := dName_eq hx
      refine ⟨pgs_cons p1 r1 rfl, ?_, ?_⟩
      · show (assignEach es X.env).length + 1 = is.length + 1
        rw [r2]
      · show List.findIdx? (·.1) ((false, _) :: assignEach es X.env) = none
        rw [List.findIdx?_cons, r3] <;> rfl
    · cases h1
theorem pg_ok {tg : Tg} (O : XOk S X C k W) (h : mtTg C tg e = true) : PG X e (gT X.K tg) := by
  cases tg with
  | one i => exact pg_one O h
  | tup is =>
    simp only [mtTg] at h
    split at h
    · rename_i es hx
      obtain ⟨kk, p, rfl⟩ := dTup_eq hx
      obtain ⟨r1, r2, r3⟩ := pgs_names O h
      exact pg_tup O.calm r1 r2 r3
    · cases h
theorem mtTg_tup {tg : Tg} (h : mtTg C tg e = true) : isTup tg = true → ∃ elts kk tpos, e = .Tuple elts kk tpos := by
  intro ht
  cases tg with
  | one i => cases ht
  | tup is =>
    simp only [mtTg] at h
    split at h
    · rename_i es hx
      obtain ⟨kk, p, rfl⟩ := dTup_eq hx
      exact ⟨_, _, _, rfl⟩
    · cases h
theorem gt_st : ∀ (e : Env) (i j : Nat) (v : Option D), gt (st e i v) j = if i = j ∧ i < e.length then v else gt e j
  | [], i, j, v => by simp [st, gt]
  | x :: r, 0, 0, v => by simp [st, gt]
  | x :: r, 0, j + 1, v => by simp [st, gt]
  | x :: r, i + 1, 0, v => by simp [st, gt]
  | x :: r, i + 1, j + 1, v => by
    simp only [st, gt, gt_st r i j v, List.length_cons, Nat.add_right_cancel_iff, Nat.add_lt_add_iff_right]
theorem st_len : ∀ (e : Env) (i : Nat) (v : Option D), (st e i v).length = e.length
  | [], _, _ => rfl
  | _ :: _, 0, _ => rfl
  | _ :: r, i + 1, v => by simp [st, st_len r i v]
/-- a slot that is no owner's is set -/
theorem SR.setN {env : Env} {loc : Lc} {γ : List Addr} {H : Hp} {g : G} {σ : L2.St} {i : Nat} {d : D} {v : V} (R : S.R env g σ H γ loc) (hm : i ∉ S.M) (r : Rp S.K S.XR (Fp γ loc S.ext) γ H d v) : S.R (st env i (some d)) g (σ.set i (some v)) H γ loc where
  len := by rw [st_len, List.length_set]; exact R.len
  gl := R.gl
  gnd := R.gnd
  cells := R.cells
  ex := R.ex
  slotM := fun j c hj hc => by
    have hij : i ≠ j := fun z => hm (z ▸ hj)
    rw [gt_st, if_neg (fun z => hij z.1)] at hc
    obtain ⟨a, xs, ds, e1, e2, e3, e4, r4⟩ := R.slotM j c hj hc
    exact ⟨a, xs, ds, e1, e2, by rw [List.getElem?_set_ne hij]; exact e3, e4, r4⟩
  slotN := fun j c hj hc => by
    rw [gt_st] at hc
    split at hc
    · rename_i z
      obtain ⟨rfl, hl⟩ := z
      cases hc
      exact ⟨v, by rw [List.getElem?_set_self (R.len ▸ hl)], r⟩
    · rename_i z
      obtain ⟨w, e1, r1⟩ := R.slotN j c hj hc
      refine ⟨w, ?_, r1⟩
      by_cases hij : i = j
      · subst hij
        have hl : i < σ.length := (List.getElem?_eq_some_iff.mp e1).1
        exact absurd ⟨rfl, R.len ▸ hl⟩ z
      · rw [List.getElem?_set_ne hij]; exact e1
  live := fun j a h => by
    obtain ⟨h1, c, h2⟩ := R.live j a h
    refine ⟨h1, c, ?_⟩
    rw [gt_st, if_neg (fun (z : i = j ∧ i < env.length) => hm (z.1 ▸ h1))]
    exact h2
  inj := R.inj
  apart := R.apart
/-- the same, within a comprehension -/
theorem wipe_set {σ : L2.St} {i : Nat} {v : Option V} : ∀ {vs : List Nat}, i ∈ vs → wipe (σ.set i v) vs = wipe σ vs := by
  intro vs h
  apply List.ext_getElem?
  intro j
  by_cases hj : j ∈ vs
  · have : ∀ (τ : L2.St), (wipe τ vs)[j]? = if j < τ.length then some none else none := by
      intro τ
      induction vs with
      | nil => cases hj
      | cons w ws ih =>
        unfold wipe
        by_cases hw : w = j
        · subst hw
          by_cases hl : w < τ.length
          · rw [if_pos hl, List.getElem?_set_self (by rw [wipe_length]; exact hl)]
          · rw [if_neg hl, List.getElem?_eq_none (by rw [List.length_set, wipe_length]; omega)]
        · rw [List.getElem?_set_ne hw]
          have hj' : j ∈ ws := by
            rcases List.mem_cons.mp hj with z | z
            · exact absurd z.symm hw
            · exact z
          by_cases hi : i ∈ ws
          · exact ih hi hj'
          · -- the statement for ws does not need i
            clear ih
            have gen : ∀ (us : List Nat), j ∈ us → (wipe τ us)[j]? = if j < τ.length then some none else none := by
              intro us
              induction us with
              | nil => intro z; cases z
              | cons u us ih2 =>
                intro z
                unfold wipe
                by_cases hu : u = j
                · subst hu
                  by_cases hl : u < τ.length
                  · rw [if_pos hl, List.getElem?_set_self (by rw [wipe_length]; exact hl)]
                  · rw [if_neg hl, List.getElem?_eq_none (by rw [List.length_set, wipe_length]; omega)]
                · rw [List.getElem?_set_ne hu]
                  rcases List.mem_cons.mp z with q | q
                  · exact absurd q.symm hu
                  · exact ih2 q
            exact gen ws hj'
    rw [this, this, List.length_set]
  · rw [wipe_out hj, wipe_out hj, List.getElem?_set_ne (fun (z : i = j) => hj (z ▸ h))]
theorem setMany_ok {own : List Nat} : ∀ {is : List Nat} {ds : List D} {xs : List V} {env env1 : Env} {loc : Lc} {γ : List Addr} {H : Hp} {g : G} {σ : L2.St} {Q : L2.St → Hp → Prop}, setTg.go is ds env = some env1 → (∀ i ∈ is, i ∉ S.M) → S.R env g σ H γ loc → RpL S.K S.XR (Fp γ loc S.ext) γ H ds xs →
    (∀ σ', S.R env1 g σ' H γ loc → ((∀ i ∈ is, i ∈ own) → wipe σ' own = wipe σ own) → Q σ' H) → xs.length = is.length ∧ gNames is xs σ H Q
  | [], [], xs, env, env1, loc, γ, H, g, σ, Q, e, hm, R, r, q => by
    cases e
    unfold RpL at r
    subst r
    exact ⟨rfl, rfl, q σ R fun _ => rfl⟩
  | [], _ :: _, _, _, _, _, _, _, _, _, _, e, _, _, _, _ => by simp [setTg.go] at e
  | _ :: _, [], _, _, _, _, _, _, _, _, _, e, _, _, _, _ => by simp [setTg.go] at e
  | i :: is, d :: ds, xs, env, env1, loc, γ, H, g, σ, Q, e, hm, R, r, q => by
    simp only [setTg.go] at e
    unfold RpL at r
    obtain ⟨v, ys, rfl, r1, r2⟩ := r
    have R1 := SR.setN R (hm i List.mem_cons_self) r1
    obtain ⟨h1, h2⟩ := setMany_ok (own := own) (Q := Q) e (fun j hj => hm j (List.mem_cons_of_mem _ hj)) R1 r2 fun σ' R' hw => q σ' R' fun ho => by
      rw [hw fun j hj => ho j (List.mem_cons_of_mem _ hj), wipe_set (ho i List.mem_cons_self)]
    exact ⟨by simp [h1], v, ys, rfl, h2⟩
/-- a turn's target -/
theorem tg_ok {own : List Nat} {tg : Tg} {d : D} {x : V} {env env1 : Env} {loc : Lc} {γ : List Addr} {H H3 : Hp} {g : G} {σ : L2.St} {Q : L2.St → Hp → Prop} (hM : S.M = C.M) (hx : XRok S.XR) (e1 : setTg tg d env = some env1) (hm : mtTg C tg e = true) (R : S.R env g σ H γ loc)
    (y : Yl S.K S.XR (Fp γ loc S.ext) γ H d x H3) (q : ∀ σ', S.R env1 g σ' H3 γ loc → Next γ H γ H3 → (tgIn tg own = true → wipe σ' own = wipe σ own) → Q σ' H3) : gT S.K tg x σ H3 Q := by
  have st : S.R env g σ H3 γ loc ∧ Next γ H γ H3 ∧ Rp S.K S.XR (Fp γ loc S.ext) γ H3 d x := by
    rcases y with ⟨rfl, r⟩ | ⟨T, xs, ds, hT, rfl, rfl, rfl, r⟩
    · exact ⟨R, ⟨fun _ _ _ h => h, fun _ h => h, List.prefix_refl _, fun _ h => .inl h⟩, r⟩
    · have n : Next γ H γ (upd H T (.tup xs)) := .alloc hT
      refine ⟨R.alloc hx hT, n, ?_⟩
      unfold Rp
      exact ⟨T, xs, rfl, SqT.of upd_same, r.mono (n.mono hx R)⟩
  obtain ⟨R3, n3, r3⟩ := st
  have hN : ∀ {is : List Nat} {es : List Expr}, mtTgs C is es = true → ∀ i ∈ is, i ∉ S.M := by
    intro is
    induction is with
    | nil => intro es _ i hi; cases hi
    | cons j is ih =>
      intro es h i hi
      cases es with
      | nil => simp [mtTgs] at h
      | cons e es =>
        simp only [mtTgs, Bool.and_eq_true] at h
        rcases List.mem_cons.mp hi with rfl | hi
        · have h1 := h.1
          split at h1
          · simp only [Bool.and_eq_true, Bool.not_eq_true'] at h1
            rw [hM]; simpa using h1.2
          · cases h1
        · exact ih h.2 i hi
  cases tg with
  | one i =>
    simp only [setTg] at e1
    cases e1
    simp only [mtTg] at hm
    split at hm
    · simp only [Bool.and_eq_true, Bool.not_eq_true'] at hm
      have hi : i ∉ S.M := by rw [hM]; simpa using hm.2
      exact q _ (SR.setN R3 hi r3) n3 fun ht => wipe_set (by simpa [tgIn] using ht)
    · cases hm
  | tup is =>
    cases d with
    | tup ds =>
      simp only [setTg] at e1
      simp only [mtTg] at hm
      split at hm
      · rename_i es hx
        unfold Rp at r3
        obtain ⟨a, xs, rfl, e3, r4⟩ := r3
        obtain ⟨h1, h2⟩ := setMany_ok (own := own) (Q := Q) e1 (hN hm) R3 r4 fun σ' R' hw => q σ' R' n3 fun ht => hw (by simpa [tgIn] using ht)
        exact ⟨a, xs, rfl, e3, h1, h2⟩
      · cases hm
    | _ => simp [setTg] at e1
end
end Tv

set_option Elab.async false
set_option linter.all false
set_option maxRecDepth 100000
/-! Soundness of comprehensions. -/
namespace Tv
open PySem PySem.Spec PyProof.Rows L2

theorem nox_ok {α β : Type} {m : Res α} {f : α → G → Res β} {P : β → G → Prop} {E : Nat → G → Prop} (h : Sat ((nox m).bind f) P E) : ∃ a g, m = .ok a g ∧ Sat (f a g) P E := by
  cases m with
  | ok a g => exact ⟨a, g, rfl, h⟩
  | err c g => exact h.elim
  | stuck => exact h.elim
theorem bind_ok {α β : Type} {m : Res α} {f : α → G → Res β} {b : β} {g' : G} (h : m.bind f = .ok b g') : ∃ a g, m = .ok a g ∧ f a g = .ok b g' := by
  cases m with
  | ok a g => exact ⟨a, g, rfl, h⟩
  | err c g => cases h
  | stuck => cases h
theorem comp_ok {f : D → G → Res (Option D)} {d : D} {ds : List D} {g g' : G} {rest : List D} (h : compGo f (d :: ds) g = .ok rest g') :
    ∃ o g1 r1, f d g = .ok o g1 ∧ compGo f ds g1 = .ok r1 g' ∧ rest = (match o with | some y => y :: r1 | none => r1) := by
  simp only [compGo] at h
  obtain ⟨o, g1, h1, h2⟩ := bind_ok h
  obtain ⟨r1, g2, h3, h4⟩ := bind_ok h2
  refine ⟨o, g1, r1, h1, ?_⟩
  cases o with
  | none => cases h4; exact ⟨h3, rfl⟩
  | some y => cases h4; exact ⟨h3, rfl⟩
theorem wipeE_gt : ∀ (vs : List Nat) (e : Env) (i : Nat) (d : D), gt (wipeE e vs) i = some d → gt e i = some d ∧ i ∉ vs
  | [], e, i, d, h => ⟨h, by simp⟩
  | v :: vs, e, i, d, h => by
    unfold wipeE at h
    rw [gt_st] at h
    split at h
    · cases h
    · rename_i z
      obtain ⟨h1, h2⟩ := wipeE_gt vs e i d h
      refine ⟨h1, ?_⟩
      simp only [List.mem_cons, not_or]
      refine ⟨fun q => z ⟨q.symm, ?_⟩, h2⟩
      subst q
      -- its slot is there
      have : ∀ (e : Env) (i : Nat) (d : D), gt e i = some d → i < e.length := by
        intro e
        induction e with
        | nil => intro i d h; simp [gt] at h
        | cons x r ih =>
          intro i d h
          cases i with
          | zero => simp
          | succ i => have := ih i d h; simp; omega
      exact this _ _ _ h
theorem wipeE_out : ∀ (vs : List Nat) (e : Env) (i : Nat), i ∉ vs → gt (wipeE e vs) i = gt e i
  | [], e, i, _ => rfl
  | v :: vs, e, i, h => by
    unfold wipeE
    rw [gt_st, if_neg (fun z => h (by rw [← z.1]; exact List.mem_cons_self)), wipeE_out vs e i fun z => h (List.mem_cons_of_mem _ z)]
theorem wipeE_len : ∀ (vs : List Nat) (e : Env), (wipeE e vs).length = e.length
  | [], _ => rfl
  | v :: vs, e => by unfold wipeE; rw [st_len, wipeE_len vs e]

theorem wipe_in {σ : L2.St} {j : Nat} : ∀ (us : List Nat), j ∈ us → (wipe σ us)[j]? = if j < σ.length then some none else none
  | [], z => by cases z
  | u :: us, z => by
    unfold wipe
    by_cases hu : u = j
    · subst hu
      by_cases hl : u < σ.length
      · rw [if_pos hl, List.getElem?_set_self (by rw [wipe_length]; exact hl)]
      · rw [if_neg hl, List.getElem?_eq_none (by rw [List.length_set, wipe_length]; omega)]
    · rw [List.getElem?_set_ne hu]
      rcases List.mem_cons.mp z with q | q
      · exact absurd q.symm hu
      · exact wipe_in us q
theorem wipe_idem {σ : L2.St} {vs : List Nat} : wipe (wipe σ vs) vs = wipe σ vs := by
  apply List.ext_getElem?
  intro j
  by_cases hj : j ∈ vs
  · rw [wipe_in vs hj, wipe_in vs hj, wipe_length]
  · rw [wipe_out hj]
theorem setMany_out {own : List Nat} : ∀ (is : List Nat) (ds : List D) (env e1 : Env), setTg.go is ds env = some e1 → (∀ i ∈ is, i ∈ own) → ∀ j, j ∉ own → gt e1 j = gt env j
  | [], [], env, e1, h, _, j, _ => by cases h; rfl
  | [], _ :: _, _, _, h, _, _, _ => by simp [setTg.go] at h
  | _ :: _, [], _, _, h, _, _, _ => by simp [setTg.go] at h
  | i :: is, d :: ds, env, e1, h, ho, j, hj => by
    simp only [setTg.go] at h
    rw [setMany_out is ds _ e1 h (fun i hi => ho i (List.mem_cons_of_mem _ hi)) j hj, gt_st, if_neg]
    rintro ⟨rfl, _⟩
    exact hj (ho i List.mem_cons_self)
theorem setTg_out {own : List Nat} {tg : Tg} {d : D} {env e1 : Env} (h : setTg tg d env = some e1) (ho : tgIn tg own = true) : ∀ j, j ∉ own → gt e1 j = gt env j := by
  intro j hj
  cases tg with
  | one i =>
    simp only [setTg] at h
    cases h
    rw [gt_st, if_neg]
    rintro ⟨rfl, _⟩
    exact hj (by simpa [tgIn] using ho)
  | tup is =>
    cases d with
    | tup ds => exact setMany_out is ds env e1 h (by simpa [tgIn] using ho) j hj
    | _ => simp [setTg] at h
theorem setMany_len : ∀ (is : List Nat) (ds : List D) (env e1 : Env), setTg.go is ds env = some e1 → e1.length = env.length
  | [], [], env, e1, h => by cases h; rfl
  | [], _ :: _, _, _, h => by simp [setTg.go] at h
  | _ :: _, [], _, _, h => by simp [setTg.go] at h
  | i :: is, d :: ds, env, e1, h => by
    simp only [setTg.go] at h
    rw [setMany_len is ds _ e1 h, st_len]
theorem Mono.same {XR : Nat → Addr → Hp → Prop} {F : Addr → Prop} {γ : List Addr} {H : Hp} : Mono XR F γ H F γ H :=
  ⟨fun _ _ e f => ⟨e, f⟩, fun _ _ _ e => e, List.prefix_refl _, fun _ _ e => e⟩
/-- a state told anew: fewer names, other cells outside -/
theorem SR.map {K : PySem.W.Frag} {XR : Nat → Addr → Hp → Prop} {ext ext' : Addr → Prop} {M : List Nat} {env env' : Env} {g : G} {σ σ' : L2.St} {H H' : Hp} {γ : List Addr} {loc : Lc} (R : SR K XR ext M env g σ H γ loc)
    (m : Mono XR (Fp γ loc ext) γ H (Fp γ loc ext') γ H') (f0 : ∀ {ds xs}, nolistL ds = true → RpL K XR F0 γ H ds xs → RpL K XR F0 γ H' ds xs) (kl : ∀ a xs, a ∈ γ ∨ (∃ i, loc i = some a) → H a = some (.lst xs) → H' a = some (.lst xs)) (ex : ∀ a, ext' a → H' a ≠ none)
    (ap : ∀ i a, loc i = some a → ¬ ext' a) (len : env'.length = σ'.length) (sub : ∀ i d, gt env' i = some d → gt env i = some d ∧ σ'[i]? = σ[i]?) (own : ∀ i, i ∈ M → gt env' i = gt env i) : SR K XR ext' M env' g σ' H' γ loc where
  len := len
  gl := R.gl
  gnd := R.gnd
  cells := fun n a c e1 e2 => by
    have q := R.cells n a c e1 e2
    cases c with
    | ins _ _ => exact q.elim
    | lst ds =>
      obtain ⟨nl, xs, e3, r⟩ := q
      exact ⟨nl, xs, kl a xs (.inl (List.mem_of_getElem? e1)) e3, f0 nl r⟩
  ex := ex
  slotM := fun i d hm hd => by
    obtain ⟨h1, h2⟩ := sub i d hd
    obtain ⟨a, xs, ds, e1, e2, e3, e4, r⟩ := R.slotM i d hm h1
    exact ⟨a, xs, ds, e1, e2, by rw [h2]; exact e3, kl a xs (.inr ⟨i, e2⟩) e4, r.mono m⟩
  slotN := fun i d hm hd => by
    obtain ⟨h1, h2⟩ := sub i d hd
    obtain ⟨v, e1, r⟩ := R.slotN i d hm h1
    exact ⟨v, by rw [h2]; exact e1, r.mono m⟩
  live := fun i a h => by
    obtain ⟨h1, d, h2⟩ := R.live i a h
    exact ⟨h1, d, by rw [own i h1]; exact h2⟩
  inj := R.inj
  apart := fun i a h => ⟨(R.apart i a h).1, ap i a h⟩
section
variable {S : Se} {X : Cx} {C : Ct} {k : Nat} {W : WX} {e : Expr}
def W0 : WX := fun _ _ _ _ => False
/-- the block of a comprehension -/
def tEb (S : Se) (x : Ex) : TE := fun σ H Q => ∃ ext, tE { S with ext := ext } W0 x σ H Q
def tCb (S : Se) (x : Ex) : TT := fun σ H Q => ∃ ext, tC' { S with ext := ext } W0 x σ H Q
theorem blk_ok {s : Shared} {H : Hp} {scope : Scope} {C0 : Addr} {cl : List (Str × Addr)} {fp : List Addr} (O : XOk S X C k W) (ext : Addr → Prop) :
    XOk { S with ext := ext } (X.blk s H scope (compEnvC scope cl C0 X.env) fp) { C with sc := relS scope C.sc, fn := fun x => scope.names.lookup x == some .cell } k W0 where
  K := O.K
  N := O.N
  sc := by rw [← O.sc]; rfl
  fn := rfl
  M := O.M
  calm := O.calm
  nd := O.nd
  free := O.free
  cons := O.cons
  room := O.room
  xr := O.xr
  call := O.call
  meth := O.meth
  make := O.make
  rd := O.rd
  fld := O.fld
  tr := O.tr
  tk := takes0
theorem niceI {tx : Tg} {it : Ex} (h : mtI C tx it e = true) : nice e = true := by
  have hc : ∀ {y}, dCall e = some y → nice e = true := by
    intro y hy
    obtain ⟨p, q, rfl⟩ := dCall_eq hy
    rfl
  cases it with
  | iof a => exact nice_of (x := a) (by simpa [mtI] using h)
  | itup a => exact nice_of (x := a) (by simpa [mtI] using h)
  | istr a => exact nice_of (x := a) (by simpa [mtI] using h)
  | irng1 a =>
    simp only [mtI] at h
    split at h
    · rename_i hx; exact hc hx
    · cases h
  | irng2 a b =>
    simp only [mtI] at h
    split at h
    · rename_i hx; exact hc hx
    · cases h
  | ienum a =>
    simp only [mtI] at h
    split at h
    · rename_i hx; exact hc hx
    · cases h
  | izip a b =>
    simp only [mtI] at h
    split at h
    · rename_i hx; exact hc hx
    · cases h
  | _ => simp [mtI] at h
theorem mkL_ok {xs : List D} {g : G} {P : D → G → Prop} {E : Nat → G → Prop} (h : Sat (mkL xs g) P E) : xs.length ≤ cap ∧ P (.lst xs) g := by
  unfold mkL at h
  split at h
  · exact ⟨by assumption, h⟩
  · exact h.elim
theorem s_comp {elt it cond : Ex} {tg : Tg} {own : List Nat} (O : XOk S X C k W)
    (hi : ∀ S X C W, XOk S X C k W → ∀ tx tgx e, (isTup tx = true → ∃ elts kk tpos, tgx = .Tuple elts kk tpos) → mtI C tx it e = true → PI X tgx e (tI S W it))
    (he : ∀ S X C W, XOk S X C k W → ∀ e, mtE C elt e = true → PE X e (tE S W elt)) (hc : ∀ S X C W, XOk S X C k W → ∀ es, mtC C cond es = true → PTs X es (tC' S W cond))
    (h : mtE C (.comp elt tg it cond own) e = true) : PE X e (tE S W (.comp elt tg it cond own)) ∧
      ∀ (i : Nat) (y : Str) (py sp : Pos), X.N[i]? = some y → X.env.scope.names.lookup y = some .local → swapsWith e (some (.Name y py)) sp.line X.env = pure true → PS X (.Assign [.Name y py] e sp) (tAsg (tE S W (.comp elt tg it cond own)) (gName i)) := by
  simp only [mtE] at h
  split at h
  · rename_i x t i c s hx
    obtain ⟨p, rfl⟩ := dComp_eq hx
    simp only [Bool.and_eq_true, Bool.not_eq_true'] at h
    obtain ⟨⟨⟨⟨⟨⟨⟨h1, h2⟩, h3⟩, h4⟩, h5⟩, h6⟩, h7⟩, h8⟩ := h
    have how : (own.map fun k => (C.N.getD k "", k)).map (·.2) = own := by
      rw [List.map_map]
      show own.map (fun k => k) = own
      exact List.map_id' own
    have hM : ∀ j, j ∈ S.M → j ∉ own := fun j hj hjo => by
      have := List.all_eq_true.mp h3 j hjo
      rw [O.M] at hj
      simp at this
      exact this hj
    have hok : BlkOk X.N X.env.scope s (own.map fun k => (C.N.getD k "", k)) := by
      rw [O.N, O.sc]; exact blkOk_by h1
    suffices rd : ∀ σ H Q, tE S W (.comp elt tg it cond own) σ H Q → tLc (tI S W it) (gT X.K tg) (tCb S cond) (tEb S elt) ((own.map fun k => (C.N.getD k "", k)).map (·.2)) σ H Q from
      ⟨PE.weak (pe_lc (own := own.map fun k => (C.N.getD k "", k)) O.calm (by rw [O.N]; exact O.nd) (hi S X C W O tg t i (mtTg_tup h5) h4) hok
        (fun s0 H0 C0 cl fp => pg_ok (blk_ok O S.ext) h5) (fun s0 H0 C0 cl fp => ⟨fun pins s1 σ H Q I ⟨ext, q⟩ => (hc _ _ _ _ (blk_ok O ext) _ h6).run pins s1 σ H Q I q⟩)
        (fun s0 H0 C0 cl fp => ⟨fun pins s1 σ H Q I ⟨ext, q⟩ => (he _ _ _ _ (blk_ok O ext) _ h7).run pins s1 σ H Q I q⟩) (fold_eq (niceI h4) _)) rd,
      fun j y py sp hy hyl hsw => PS.weak (ps_setLc (own := own.map fun k => (C.N.getD k "", k)) O.calm (by rw [O.N]; exact O.nd) hy hyl hsw (hi S X C W O tg t i (mtTg_tup h5) h4) hok
        (fun s0 H0 C0 cl fp => pg_ok (blk_ok O S.ext) h5) (fun s0 H0 C0 cl fp => ⟨fun pins s1 σ H Q I ⟨ext, q⟩ => (hc _ _ _ _ (blk_ok O ext) _ h6).run pins s1 σ H Q I q⟩)
        (fun s0 H0 C0 cl fp => ⟨fun pins s1 σ H Q I ⟨ext, q⟩ => (he _ _ _ _ (blk_ok O ext) _ h7).run pins s1 σ H Q I q⟩) (fold_eq (niceI h4) _)) fun D σ H q => rd σ H _ q⟩
    intro σ H Q ⟨env, g, γ, loc, R, q⟩
    rw [how]
    simp only [evE] at q
    refine ⟨env, g, γ, loc, R, q.bind.mono (fun ds g1 q1 J H1 γ1 R1 s1 goes A hA => ?_) fun _ _ x => x⟩
    obtain ⟨rest0, gE, ev0, fin⟩ := nox_ok q1
    obtain ⟨hcap, fin⟩ := mkL_ok fin
    clear q1 q
    generalize hf : (fun (d : D) (g : G) => match setTg tg d (wipeE env own) with
        | some e1 => (evC S.T cond e1 g).bind fun b g => if b then (evE S.T elt e1 g).bind fun y g => Res.ok (some y) g else Res.ok none g
        | none => Res.stuck) = f at ev0
    have hfx : ∀ d g o g', f d g = .ok o g' → ∃ e1 b gb, setTg tg d (wipeE env own) = some e1 ∧ evC S.T cond e1 g = .ok b gb ∧ (if b = true then ∃ y, evE S.T elt e1 gb = .ok y g' ∧ o = some y else o = none ∧ g' = gb) := by
      intro d g o g' hh
      subst hf
      cases es : setTg tg d (wipeE env own) with
      | none => simp only [es] at hh; cases hh
      | some e1 =>
        simp only [es] at hh
        obtain ⟨b, gb, hb, hr⟩ := bind_ok hh
        refine ⟨e1, b, gb, rfl, hb, ?_⟩
        cases b with
        | false => cases hr; exact ⟨rfl, rfl⟩
        | true =>
          obtain ⟨y, gy, hy, hz⟩ := bind_ok hr
          cases hz
          exact ⟨y, hy, rfl⟩
    let S' : Se := { S with ext := fun a => S.ext a ∨ a = A }
    have hAg : A ∉ γ1 := fun z => R1.cellne A z hA
    have hAl : ∀ i, loc i ≠ some A := fun i z => by obtain ⟨ys, e⟩ := R1.own z; rw [e] at hA; cases hA
    -- what holds between the turns
    let Iv : Nat → Hp → Prop := fun i H2 => ∃ g2 γ2 acc dacc rest, S'.R (wipeE env own) g2 (wipe σ own) H2 γ2 loc ∧ A ∉ γ2 ∧ H2 A = some (.lst acc) ∧ RpL S.K S.XR (Fp γ2 loc S'.ext) γ2 H2 dacc acc ∧ StE γ1 loc H1 γ2 H2 ∧
      compGo f (ds.drop i) g2 = .ok rest gE ∧ dacc ++ rest = rest0
    have later : ∀ {γ2 H2}, StE γ1 loc H1 γ2 H2 → Mono S.XR (Fp γ1 loc S.ext) γ1 H1 (Fp γ2 loc S'.ext) γ2 H2 := fun {γ2 H2} s2 => by
      have m := s2.mono (loc' := loc) R1 O.xr
      refine ⟨fun a xs e1 f1 => ?_, m.nl, m.gm, m.xr⟩
      obtain ⟨e2, f2⟩ := m.ls a xs e1 f1
      refine ⟨e2, ?_⟩
      rintro (z | z | z | z)
      · exact f2 (.inl z)
      · exact f2 (.inr (.inl z))
      · exact f2 (.inr (.inr z))
      · rw [z, hA] at e1; cases e1
    have ownStay : ∀ {g2 γ2 H2}, S'.R (wipeE env own) g2 (wipe σ own) H2 γ2 loc → OwnStay S env loc H2 γ2 (Fp γ2 loc S'.ext) := fun {g2 γ2 H2} R2 i a ds hm hl hd => by
      obtain ⟨a', xs, es, e1, e2, _, e4, r⟩ := R2.slotM i (.lst ds) hm (by rw [wipeE_out own env i (hM i hm)]; exact hd)
      rw [hl] at e2; cases e2
      cases e1
      exact ⟨xs, e4, r⟩
    have hstep0 : StE γ1 loc H1 γ1 (upd H1 A (.lst [])) := (Next.alloc hA).ste R1
    have start : Iv 0 (upd H1 A (.lst [])) := by
      refine ⟨g1, γ1, [], [], rest0, ?_, hAg, upd_same, .nil, hstep0, by simpa using ev0, rfl⟩
      have n : Next γ1 H1 γ1 (upd H1 A (.lst [])) := .alloc hA
      refine SR.map R1 (later hstep0) (fun nl r => Mono.f0 R1 n O.xr nl r) (fun a xs _ e => by rw [upd_ne (ne_of_none e hA)]; exact e) (fun a ha => ?_) (fun i a hl ha => ?_) (by rw [wipeE_len, wipe_length]; exact R1.len) (fun i d hd => ?_) fun i hm => wipeE_out own env i (hM i hm)
      · rcases ha with ha | rfl
        · exact n.live a (R1.ex a ha)
        · rw [upd_same]; simp
      · rcases ha with ha | rfl
        · exact (R1.apart i a hl).2 ha
        · exact hAl i hl
      · obtain ⟨w1, w2⟩ := wipeE_gt own env i d hd
        exact ⟨w1, wipe_out w2⟩
    refine ⟨fun i m H2 => m = ds.length - i ∧ i ≤ ds.length ∧ Iv i H2, ⟨_, rfl, Nat.zero_le _, start⟩, ?_⟩
    rintro i m H2 ⟨rfl, hil, g2, γ2, acc, dacc, rest, R2, hAg2, eA, rA, s2, ev, eq⟩
    by_cases hlt : i < ds.length
    · refine .inr ?_
      have hd : ds[i]? = some ds[i] := List.getElem?_eq_getElem hlt
      obtain ⟨go, yl⟩ := goes.go H2 γ2 _ (later s2) (fun _ => ownStay R2) i _ hd
      refine ⟨go, Iv (i + 1), fun H' hI => ⟨ds.length - (i + 1), by omega, rfl, hlt, hI⟩, fun x H3 hy => ?_⟩
      have y := yl x H3 hy
      rw [List.drop_eq_getElem_cons hlt] at ev
      obtain ⟨o, g3, r1, hf1, hf2, hr⟩ := comp_ok ev
      obtain ⟨e1, b, gb, he1, hcb, hel⟩ := hfx _ _ _ _ hf1
      rw [← O.K]
      refine tg_ok (S := S') (own := own) (C := { C with sc := relS s C.sc, fn := fun x => s.names.lookup x == some .cell }) O.M O.xr he1 h5 R2 y fun σ3 R3 n3 hw => ?_
      have hw3 : wipe σ3 own = wipe σ own := by rw [hw h2, wipe_idem]
      refine ⟨hw3, ?_⟩
      refine ⟨S'.ext, e1, g2, γ2, loc, R3, ?_⟩
      show Sat (evC S.T cond e1 g2) _ _
      rw [hcb]
      intro H4 γ4 R4 s4
      have k3 : H3 A = some (.lst acc) := n3.keep A _ hAg2 eA
      have s23 : StE γ1 loc H1 γ2 H3 := s2.trans (n3.ste R2) R1.cellne
      have s24 := s23.trans s4 R1.cellne
      have k4 : H4 A = some (.lst acc) := s4.keep A _ hAg2 hAl k3
      have hAg4 : A ∉ γ4 := fun z => (s4.newg A z).elim hAg2 fun q => by rw [k3] at q; cases q
      -- the block's names forgotten again
      have back : ∀ {g5 γ5 H5 H6}, S'.R e1 g5 σ3 H5 γ5 loc → A ∉ γ5 → (∀ a, a ≠ A → H6 a = H5 a) → (∃ ys, H5 A = some (.lst ys)) → (∃ ys, H6 A = some (.lst ys)) → S'.R (wipeE env own) g5 (wipe σ own) H6 γ5 loc := by
        intro g5 γ5 H5 H6 R5 hA5 h56 ⟨ys5, e5⟩ ⟨ys6, e6⟩
        have m56 : Mono S'.XR (Fp γ5 loc S'.ext) γ5 H5 (Fp γ5 loc S'.ext) γ5 H6 := by
          refine ⟨fun a xs e f => ⟨?_, f⟩, fun a o ho e => ?_, List.prefix_refl _, fun c a hx => O.xr c a H5 hx H6 fun b hb o e => ?_⟩
          · rw [h56 a (fun z => f (.inr (.inr (.inr z))))]; exact e
          · rw [h56 a (fun z => by rw [z, e5] at e; cases e; exact ho _ rfl)]; exact e
          · rw [h56 b (fun z => hb ys5 (z ▸ e5))]; exact e
        refine SR.map R5 m56 (fun nl r => RpL.F0 nl (RpL.mono m56 _ _ (r.nol _ _ nl))) (fun a xs ha e => ?_) (fun a ha => ?_) (fun i a hl => (R5.apart i a hl).2) (by rw [wipeE_len, wipe_length]; exact R1.len) (fun i d hd => ?_) fun i hm => ?_
        · rw [h56 a (fun z => ?_)]
          · exact e
          · subst z
            rcases ha with ha | ⟨i, ha⟩
            · exact hA5 ha
            · exact hAl i ha
        · by_cases z : a = A
          · subst z; rw [e6]; simp
          · rw [h56 a z]; exact R5.ex a ha
        · obtain ⟨w1, w2⟩ := wipeE_gt own env i d hd
          refine ⟨by rw [setTg_out he1 h2 i w2]; exact hd, ?_⟩
          have := congrArg (fun l => l[i]?) hw3
          simp only [wipe_out w2] at this
          rw [wipe_out w2, this]
        · rw [setTg_out he1 h2 i (hM i hm)]
      cases b with
      | false =>
        rw [if_neg (by simp)] at hel
        obtain ⟨rfl, rfl⟩ := hel
        rw [if_neg (by simp)]
        refine ⟨g3, γ4, acc, dacc, r1, back R4 hAg4 (fun _ _ => rfl) ⟨_, k4⟩ ⟨_, k4⟩, hAg4, k4, ?_, s24, hf2, by rw [← eq, hr]⟩
        exact (rA.mono (n3.mono O.xr R2)).mono (s4.mono (loc' := loc) R3 O.xr)
      | true =>
        rw [if_pos rfl] at hel
        obtain ⟨yv, hy1, rfl⟩ := hel
        rw [if_pos rfl]
        refine ⟨S'.ext, e1, gb, γ4, loc, R4, ?_⟩
        show Sat (evE S.T elt e1 gb) _ _
        rw [hy1]
        intro v5 H5 γ5 R5 s5 p5
        have k5 : H5 A = some (.lst acc) := s5.keep A _ hAg4 hAl k4
        have hAg5 : A ∉ γ5 := fun z => (s5.newg A z).elim hAg4 fun q => by rw [k4] at q; cases q
        have s25 := s24.trans s5 R1.cellne
        have r5 := p5.rp (isBor_fl h8)
        have rA5 := ((rA.mono (n3.mono O.xr R2)).mono (s4.mono (loc' := loc) R3 O.xr)).mono (s5.mono (loc' := loc) R4 O.xr)
        have hlen : acc.length < sizeLine := by
          have e1 : rest0.length ≤ cap := hcap
          rw [← eq, hr, List.length_append] at e1
          have := rA.len
          simp only [List.length_cons] at e1
          exact Nat.lt_of_lt_of_le (by omega : acc.length < cap + 1) (by decide)
        have h6 : ∀ a, a ≠ A → (upd H5 A (.lst (acc ++ [v5]))) a = H5 a := fun a z => upd_ne z
        have m6 : Mono S'.XR (Fp γ5 loc S'.ext) γ5 H5 (Fp γ5 loc S'.ext) γ5 (upd H5 A (.lst (acc ++ [v5]))) := by
          refine ⟨fun a xs e f => ⟨?_, f⟩, fun a o ho e => ?_, List.prefix_refl _, fun c a hx => O.xr c a H5 hx _ fun b hb o e => ?_⟩
          · rw [h6 a (fun z => f (.inr (.inr (.inr z))))]; exact e
          · rw [h6 a (fun z => by rw [z, k5] at e; cases e; exact ho _ rfl)]; exact e
          · rw [h6 b (fun z => hb acc (z ▸ k5))]; exact e
        refine ⟨acc, k5, hlen, g3, γ5, acc ++ [v5], dacc ++ [yv], r1, back R5 hAg5 h6 ⟨_, k5⟩ ⟨_, upd_same⟩, hAg5, upd_same, (rA5.append (.cons r5 .nil)).mono m6, ?_, hf2, by rw [← eq, hr]; simp⟩
        refine ⟨⟨fun a o n1 n2 e => ?_, fun a h => ?_, s25.grow, s25.newg, s25.newl⟩, fun i a hl => by rw [h6 a (fun z => hAl i (z ▸ hl))]; exact s25.own i a hl⟩
        · rw [h6 a (fun z => by rw [z, hA] at e; cases e)]; exact s25.keep a o n1 n2 e
        · by_cases z : a = A
          · subst z; rw [upd_same]; simp
          · rw [h6 a z]; exact s25.live a h
    · have hie : i = ds.length := by omega
      subst hie
      refine .inl ⟨goes.stop H2 γ2 _ (later s2) (fun _ => ownStay R2) _ (Nat.le_refl _), ?_⟩
      rw [List.drop_length] at ev
      cases ev
      rw [List.append_nil] at eq
      subst eq
      have sub : ∀ a, Fp γ2 loc S.ext a → Fp γ2 loc S'.ext a := fun a z => by
        rcases z with z | z | z
        · exact .inl z
        · exact .inr (.inl z)
        · exact .inr (.inr (.inl z))
      have sub' : ∀ a, (Fp γ2 loc S.ext a ∨ a = A) → Fp γ2 loc S'.ext a := fun a z => z.elim (sub a) fun q => .inr (.inr (.inr q))
      have m1 := s2.mono (loc' := loc) R1 O.xr
      have Rf : S.R env gE σ H2 γ2 loc := {
        len := R1.len
        gl := R2.gl
        gnd := R2.gnd
        cells := R2.cells
        ex := fun a h => s2.live a (R1.ex a h)
        slotM := fun j d hm hd => by
          obtain ⟨a, xs, es, e1, e2, e3, e4, r⟩ := R2.slotM j d hm (by rw [wipeE_out own env j (hM j hm)]; exact hd)
          exact ⟨a, xs, es, e1, e2, by rw [← wipe_out (hM j hm)]; exact e3, e4, r.mono (fp_sub sub)⟩
        slotN := fun j d hm hd => by
          obtain ⟨v, e1, r⟩ := R1.slotN j d hm hd
          exact ⟨v, e1, r.mono m1⟩
        live := R1.live
        inj := R1.inj
        apart := fun j a h => ⟨(R2.apart j a h).1, (R1.apart j a h).2⟩ }
      refine fin _ H2 γ2 Rf (s1.trans s2 R.cellne) (.inr ⟨A, acc, dacc, ?_, eA, rfl, rfl, rA.mono (fp_sub sub'), ?_⟩)
      · cases z : H A with
        | none => rfl
        | some o => exact absurd hA (s1.live A (by rw [z]; simp))
      · rintro (z | ⟨j, z⟩ | z)
        · exact hAg2 z
        · exact hAl j z
        · exact R1.ex A z hA
  · cases h
end
end Tv

set_option Elab.async false
set_option linter.all false
set_option maxRecDepth 100000
/-! Soundness of expressions: all together. -/
namespace Tv
open PySem PySem.Spec PyProof.Rows L2

structure PX (k : Nat) (x : Ex) : Prop where
  e : ∀ S X C W, XOk S X C k W → ∀ e, mtE C x e = true → PE X e (tE S W x)
  t : ∀ S X C W, XOk S X C k W → ∀ e, mtE C x e = true → isIte x = false → PT X e (tT S W x)
  es : ∀ S X C W, XOk S X C k W → ∀ es, mtEs C x es = true → PA X es (tEs S W x)
  b : ∀ S X C W, XOk S X C k W → PB S X C W x
  o : ∀ S X C W, XOk S X C k W → ∀ o, mtO C x o = true → PO X o (tOx S W x)
  c : ∀ S X C W, XOk S X C k W → ∀ es, mtC C x es = true → PTs X es (tC' S W x)
  i : ∀ S X C W, XOk S X C k W → ∀ tx tgx e, (isTup tx = true → ∃ elts kk tpos, tgx = .Tuple elts kk tpos) → mtI C tx x e = true → PI X tgx e (tI S W x)

section
variable {S : Se} {X : Cx} {C : Ct} {k : Nat} {W : WX} {e : Expr}
/-- an expression that is neither a list nor a part of one -/
theorem px_plain {x : Ex} (he : ∀ S X C W, XOk S X C k W → ∀ e, mtE C x e = true → PE X e (tE S W x)) (ht : ∀ S X C W, XOk S X C k W → ∀ e, mtE C x e = true → isIte x = false → PT X e (tT S W x))
    (h1 : ∀ C es, mtEs C x es = false) (h2 : ∀ C o, mtO C x o = false) (h3 : ∀ C es, mtC C x es = false) (h4 : ∀ C tx e, mtI C tx x e = false) : PX k x where
  e := he
  t := ht
  es := fun S X C W O es h => by rw [h1] at h; cases h
  b := fun S X C W O => ⟨fun es p _ h => (by rw [h1] at h; cases h), fun es p _ h => (by rw [h1] at h; cases h), fun es p _ h => (by rw [h1] at h; cases h), fun es p _ h => (by rw [h1] at h; cases h)⟩
  o := fun S X C W O o h => by rw [h2] at h; cases h
  c := fun S X C W O es h => by rw [h3] at h; cases h
  i := fun S X C W O tx tgx e _ h => by rw [h4] at h; cases h
theorem isTrue_neg {a : Expr} {p : Pos} (env : PySem.Env) : ∀ whole, isTrue (.UnaryOp .USub a p) env whole = (do let v ← whole; standAt p; holding [v] (truthy v)) := fun _ => rfl
theorem t_neg {a : Ex} (O : XOk S X C k W) (he : PE X e (tE S W (.neg a))) (hm : mtE C (.neg a) e = true) : PT X e (tT S W (.neg a)) := by
  simp only [mtE] at hm
  split at hm
  · rename_i x hx
    obtain ⟨p, rfl⟩ := dUn_eq hx
    refine PT.weak (pt_val he (isTrue_neg _)) fun σ H Q ⟨env, g, γ, loc, R, q⟩ => ?_
    refine ⟨env, g, γ, loc, R, q.mono (fun d g' ⟨b, eb, q1⟩ v H' γ' R' s' p => ?_) fun _ _ x => x⟩
    subst eb
    have := (p.val.op R').bl
    exact ⟨b, this, q1 H' γ' R' s'⟩
  · cases hm
theorem c_absent {es : List Expr} (O : XOk S X C k W) (h : mtC C .absent es = true) : PTs X es (tC' S W .absent) := by
  cases es with
  | cons _ _ => simp [mtC] at h
  | nil => exact ⟨fun pins s σ H Q I ⟨env, g, γ, loc, R, q⟩ => pts_nil.run pins s σ H Q I (q H γ R .refl)⟩
theorem c_opt {a : Ex} {es : List Expr} (O : XOk S X C k W) (ha : ∀ e, mtE C a e = true → isIte a = false → PT X e (tT S W a)) (h : mtC C (.opt a) es = true) : PTs X es (tC' S W (.opt a)) := by
  cases es with
  | nil => simp [mtC] at h
  | cons e r =>
    cases r with
    | cons _ _ => simp [mtC] at h
    | nil =>
      have h' : mtE C a e = true ∧ isIte a = false := by simpa [mtC] using h
      refine ⟨fun pins s σ H Q I ⟨env, g, γ, loc, R, q⟩ => (pts_one (ha e h'.1 h'.2)).run pins s σ H Q I ?_⟩
      simp only [evC] at q
      refine ⟨env, g, γ, loc, R, q.bind.mono (fun d g1 q1 => ?_) fun _ _ x => x⟩
      cases d with
      | bl b => exact ⟨b, rfl, q1⟩
      | _ => exact q1.elim
theorem px (k : Nat) : ∀ x : Ex, PX k x := by
  intro x
  induction x with
  | nil =>
    exact { e := fun S X C W O e h => (by simp [mtE] at h), t := fun S X C W O e h => (by simp [mtE] at h), es := fun S X C W O es h => es_nil O h
            b := fun S X C W O => ⟨fun es p hne h => (by cases es with | nil => exact absurd rfl hne | cons _ _ => simp [mtEs] at h), fun es p hne h => (by cases es with | nil => exact absurd rfl hne | cons _ _ => simp [mtEs] at h),
              fun es p hne h => (by cases es with | nil => exact absurd rfl hne | cons _ _ => simp [mtEs] at h), fun es p hne h => (by cases es with | nil => exact absurd rfl hne | cons _ _ => simp [mtEs] at h)⟩
            o := fun S X C W O o h => (by cases o <;> simp [mtO] at h), c := fun S X C W O es h => (by simp [mtC] at h), i := fun S X C W O tx tgx e _ h => (by simp [mtI] at h) }
  | cons a r ha hr =>
    exact { e := fun S X C W O e h => (by simp [mtE] at h), t := fun S X C W O e h => (by simp [mtE] at h), es := fun S X C W O es h => es_cons O (ha.e S X C W O) (hr.es S X C W O) h
            b := fun S X C W O => b_cons O (ha.e S X C W O) (ha.t S X C W O) (hr.b S X C W O)
            o := fun S X C W O o h => (by cases o <;> simp [mtO] at h), c := fun S X C W O es h => (by simp [mtC] at h), i := fun S X C W O tx tgx e _ h => (by simp [mtI] at h) }
  | absent =>
    exact { e := fun S X C W O e h => (by simp [mtE] at h), t := fun S X C W O e h => (by simp [mtE] at h), es := fun S X C W O es h => (by cases es <;> simp [mtEs] at h)
            b := fun S X C W O => ⟨fun es p hne h => (by cases es <;> simp [mtEs] at h), fun es p hne h => (by cases es <;> simp [mtEs] at h), fun es p hne h => (by cases es <;> simp [mtEs] at h), fun es p hne h => (by cases es <;> simp [mtEs] at h)⟩
            o := fun S X C W O o h => o_absent h, c := fun S X C W O es h => c_absent O h, i := fun S X C W O tx tgx e _ h => (by simp [mtI] at h) }
  | opt a ha =>
    exact { e := fun S X C W O e h => (by simp [mtE] at h), t := fun S X C W O e h => (by simp [mtE] at h), es := fun S X C W O es h => (by cases es <;> simp [mtEs] at h)
            b := fun S X C W O => ⟨fun es p hne h => (by cases es <;> simp [mtEs] at h), fun es p hne h => (by cases es <;> simp [mtEs] at h), fun es p hne h => (by cases es <;> simp [mtEs] at h), fun es p hne h => (by cases es <;> simp [mtEs] at h)⟩
            o := fun S X C W O o h => o_opt O (ha.e S X C W O) h, c := fun S X C W O es h => c_opt O (ha.t S X C W O) h, i := fun S X C W O tx tgx e _ h => (by simp [mtI] at h) }
  | iof a ha =>
    exact { e := fun S X C W O e h => (by simp [mtE] at h), t := fun S X C W O e h => (by simp [mtE] at h), es := fun S X C W O es h => (by cases es <;> simp [mtEs] at h)
            b := fun S X C W O => ⟨fun es p hne h => (by cases es <;> simp [mtEs] at h), fun es p hne h => (by cases es <;> simp [mtEs] at h), fun es p hne h => (by cases es <;> simp [mtEs] at h), fun es p hne h => (by cases es <;> simp [mtEs] at h)⟩
            o := fun S X C W O o h => (by cases o <;> simp [mtO] at h), c := fun S X C W O es h => (by simp [mtC] at h), i := fun S X C W O tx tgx e _ h => i_of O (ha.e S X C W O) h }
  | itup a ha =>
    exact { e := fun S X C W O e h => (by simp [mtE] at h), t := fun S X C W O e h => (by simp [mtE] at h), es := fun S X C W O es h => (by cases es <;> simp [mtEs] at h)
            b := fun S X C W O => ⟨fun es p hne h => (by cases es <;> simp [mtEs] at h), fun es p hne h => (by cases es <;> simp [mtEs] at h), fun es p hne h => (by cases es <;> simp [mtEs] at h), fun es p hne h => (by cases es <;> simp [mtEs] at h)⟩
            o := fun S X C W O o h => (by cases o <;> simp [mtO] at h), c := fun S X C W O es h => (by simp [mtC] at h), i := fun S X C W O tx tgx e _ h => i_tup O (ha.e S X C W O) h }
  | istr a ha =>
    exact { e := fun S X C W O e h => (by simp [mtE] at h), t := fun S X C W O e h => (by simp [mtE] at h), es := fun S X C W O es h => (by cases es <;> simp [mtEs] at h)
            b := fun S X C W O => ⟨fun es p hne h => (by cases es <;> simp [mtEs] at h), fun es p hne h => (by cases es <;> simp [mtEs] at h), fun es p hne h => (by cases es <;> simp [mtEs] at h), fun es p hne h => (by cases es <;> simp [mtEs] at h)⟩
            o := fun S X C W O o h => (by cases o <;> simp [mtO] at h), c := fun S X C W O es h => (by simp [mtC] at h), i := fun S X C W O tx tgx e _ h => i_str O (ha.e S X C W O) h }
  | irng1 a ha =>
    exact { e := fun S X C W O e h => (by simp [mtE] at h), t := fun S X C W O e h => (by simp [mtE] at h), es := fun S X C W O es h => (by cases es <;> simp [mtEs] at h)
            b := fun S X C W O => ⟨fun es p hne h => (by cases es <;> simp [mtEs] at h), fun es p hne h => (by cases es <;> simp [mtEs] at h), fun es p hne h => (by cases es <;> simp [mtEs] at h), fun es p hne h => (by cases es <;> simp [mtEs] at h)⟩
            o := fun S X C W O o h => (by cases o <;> simp [mtO] at h), c := fun S X C W O es h => (by simp [mtC] at h), i := fun S X C W O tx tgx e _ h => i_rng1 O (ha.e S X C W O) h }
  | irng2 a b ha hb =>
    exact { e := fun S X C W O e h => (by simp [mtE] at h), t := fun S X C W O e h => (by simp [mtE] at h), es := fun S X C W O es h => (by cases es <;> simp [mtEs] at h)
            b := fun S X C W O => ⟨fun es p hne h => (by cases es <;> simp [mtEs] at h), fun es p hne h => (by cases es <;> simp [mtEs] at h), fun es p hne h => (by cases es <;> simp [mtEs] at h), fun es p hne h => (by cases es <;> simp [mtEs] at h)⟩
            o := fun S X C W O o h => (by cases o <;> simp [mtO] at h), c := fun S X C W O es h => (by simp [mtC] at h), i := fun S X C W O tx tgx e _ h => i_rng2 O (ha.e S X C W O) (hb.e S X C W O) h }
  | ienum a ha =>
    exact { e := fun S X C W O e h => (by simp [mtE] at h), t := fun S X C W O e h => (by simp [mtE] at h), es := fun S X C W O es h => (by cases es <;> simp [mtEs] at h)
            b := fun S X C W O => ⟨fun es p hne h => (by cases es <;> simp [mtEs] at h), fun es p hne h => (by cases es <;> simp [mtEs] at h), fun es p hne h => (by cases es <;> simp [mtEs] at h), fun es p hne h => (by cases es <;> simp [mtEs] at h)⟩
            o := fun S X C W O o h => (by cases o <;> simp [mtO] at h), c := fun S X C W O es h => (by simp [mtC] at h), i := fun S X C W O tx tgx e ht h => i_enum O (ha.e S X C W O) ht h }
  | izip a b ha hb =>
    exact { e := fun S X C W O e h => (by simp [mtE] at h), t := fun S X C W O e h => (by simp [mtE] at h), es := fun S X C W O es h => (by cases es <;> simp [mtEs] at h)
            b := fun S X C W O => ⟨fun es p hne h => (by cases es <;> simp [mtEs] at h), fun es p hne h => (by cases es <;> simp [mtEs] at h), fun es p hne h => (by cases es <;> simp [mtEs] at h), fun es p hne h => (by cases es <;> simp [mtEs] at h)⟩
            o := fun S X C W O o h => (by cases o <;> simp [mtO] at h), c := fun S X C W O es h => (by simp [mtC] at h), i := fun S X C W O tx tgx e ht h => i_zip O (ha.e S X C W O) (hb.e S X C W O) ht h }
  | ands es hes =>
    exact px_plain (fun S X C W O e h => (s_ands O (hes.b S X C W O) h).1) (fun S X C W O e h _ => (s_ands O (hes.b S X C W O) h).2) (fun C es => by cases es <;> simp [mtEs]) (fun C o => by cases o <;> simp [mtO]) (fun C es => by simp [mtC]) (fun C tx e => by simp [mtI])
  | ors es hes =>
    exact px_plain (fun S X C W O e h => (s_ors O (hes.b S X C W O) h).1) (fun S X C W O e h _ => (s_ors O (hes.b S X C W O) h).2) (fun C es => by cases es <;> simp [mtEs]) (fun C o => by cases o <;> simp [mtO]) (fun C es => by simp [mtC]) (fun C tx e => by simp [mtI])
  | not a ha =>
    exact px_plain (fun S X C W O e h => (s_not O (ha.e S X C W O) (ha.t S X C W O) h).1) (fun S X C W O e h _ => (s_not O (ha.e S X C W O) (ha.t S X C W O) h).2) (fun C es => by cases es <;> simp [mtEs]) (fun C o => by cases o <;> simp [mtO]) (fun C es => by simp [mtC]) (fun C tx e => by simp [mtI])
  | cmp o a b ha hb =>
    exact px_plain (fun S X C W O e h => (s_cmp O (ha.e S X C W O) (hb.e S X C W O) h).1) (fun S X C W O e h _ => (s_cmp O (ha.e S X C W O) (hb.e S X C W O) h).2) (fun C es => by cases es <;> simp [mtEs]) (fun C o => by cases o <;> simp [mtO]) (fun C es => by simp [mtC]) (fun C tx e => by simp [mtI])
  | chain o p a b c ha hb hc =>
    exact px_plain (fun S X C W O e h => (s_chain O (ha.e S X C W O) (hb.e S X C W O) (hc.e S X C W O) h).1) (fun S X C W O e h _ => (s_chain O (ha.e S X C W O) (hb.e S X C W O) (hc.e S X C W O) h).2) (fun C es => by cases es <;> simp [mtEs]) (fun C o => by cases o <;> simp [mtO]) (fun C es => by simp [mtC]) (fun C tx e => by simp [mtI])
  | chain3 o p q a b c d ha hb hc hd =>
    exact px_plain (fun S X C W O e h => (s_chain3 O (ha.e S X C W O) (hb.e S X C W O) (hc.e S X C W O) (hd.e S X C W O) h).1) (fun S X C W O e h _ => (s_chain3 O (ha.e S X C W O) (hb.e S X C W O) (hc.e S X C W O) (hd.e S X C W O) h).2) (fun C es => by cases es <;> simp [mtEs]) (fun C o => by cases o <;> simp [mtO]) (fun C es => by simp [mtC]) (fun C tx e => by simp [mtI])
  | isn a ha =>
    exact px_plain (fun S X C W O e h => (s_isn O (ha.e S X C W O) h).1) (fun S X C W O e h _ => (s_isn O (ha.e S X C W O) h).2) (fun C es => by cases es <;> simp [mtEs]) (fun C o => by cases o <;> simp [mtO]) (fun C es => by simp [mtC]) (fun C tx e => by simp [mtI])
  | nisn a ha =>
    exact px_plain (fun S X C W O e h => (s_nisn O (ha.e S X C W O) h).1) (fun S X C W O e h _ => (s_nisn O (ha.e S X C W O) h).2) (fun C es => by cases es <;> simp [mtEs]) (fun C o => by cases o <;> simp [mtO]) (fun C es => by simp [mtC]) (fun C tx e => by simp [mtI])
  | ife c a b hc ha hb =>
    exact px_plain (fun S X C W O e h => s_ife O (hc.t S X C W O) (ha.e S X C W O) (hb.e S X C W O) h) (fun S X C W O e h hi => by cases hi) (fun C es => by cases es <;> simp [mtEs]) (fun C o => by cases o <;> simp [mtO]) (fun C es => by simp [mtC]) (fun C tx e => by simp [mtI])
  | neg a ha =>
    exact px_plain (fun S X C W O e h => s_neg O (ha.e S X C W O) h) (fun S X C W O e h _ => t_neg O (s_neg O (ha.e S X C W O) h) h) (fun C es => by cases es <;> simp [mtEs]) (fun C o => by cases o <;> simp [mtO]) (fun C es => by simp [mtC]) (fun C tx e => by simp [mtI])
  | isX c a ha => exact px_plain (fun S X C W O e h => s_isX O (ha.e S X C W O) h) (fun S X C W O e h _ => t_of O (s_isX O (ha.e S X C W O) h) h rfl rfl) (fun C es => by cases es <;> simp [mtEs]) (fun C o => by cases o <;> simp [mtO]) (fun C es => by simp [mtC]) (fun C tx e => by simp [mtI])
  | fld a i ha => exact px_plain (fun S X C W O e h => s_fld O (ha.e S X C W O) h) (fun S X C W O e h _ => t_of O (s_fld O (ha.e S X C W O) h) h rfl rfl) (fun C es => by cases es <;> simp [mtEs]) (fun C o => by cases o <;> simp [mtO]) (fun C es => by simp [mtC]) (fun C tx e => by simp [mtI])
  | mcall n a es ha hes => exact px_plain (fun S X C W O e h => s_mcall O (ha.e S X C W O) (hes.es S X C W O) h) (fun S X C W O e h _ => t_of O (s_mcall O (ha.e S X C W O) (hes.es S X C W O) h) h rfl rfl) (fun C es => by cases es <;> simp [mtEs]) (fun C o => by cases o <;> simp [mtO]) (fun C es => by simp [mtC]) (fun C tx e => by simp [mtI])
  | make n es hes => exact px_plain (fun S X C W O e h => s_make O (hes.es S X C W O) h) (fun S X C W O e h _ => t_of O (s_make O (hes.es S X C W O) h) h rfl rfl) (fun C es => by cases es <;> simp [mtEs]) (fun C o => by cases o <;> simp [mtO]) (fun C es => by simp [mtC]) (fun C tx e => by simp [mtI])
  | popc a ha => exact px_plain (fun S X C W O e h => s_popc O (ha.e S X C W O) h) (fun S X C W O e h _ => t_of O (s_popc O (ha.e S X C W O) h) h rfl rfl) (fun C es => by cases es <;> simp [mtEs]) (fun C o => by cases o <;> simp [mtO]) (fun C es => by simp [mtC]) (fun C tx e => by simp [mtI])
  | lenr n a ha => exact px_plain (fun S X C W O e h => s_lenr O (ha.e S X C W O) h) (fun S X C W O e h _ => t_of O (s_lenr O (ha.e S X C W O) h) h rfl rfl) (fun C es => by cases es <;> simp [mtEs]) (fun C o => by cases o <;> simp [mtO]) (fun C es => by simp [mtC]) (fun C tx e => by simp [mtI])
  | cmpc o a b ha hb =>
    exact px_plain (fun S X C W O e h => (s_cmpc O (ha.e S X C W O) (hb.e S X C W O) h).1) (fun S X C W O e h _ => (s_cmpc O (ha.e S X C W O) (hb.e S X C W O) h).2) (fun C es => by cases es <;> simp [mtEs]) (fun C o => by cases o <;> simp [mtO]) (fun C es => by simp [mtC]) (fun C tx e => by simp [mtI])
  | var i => exact px_plain (fun S X C W O e h => s_var O h) (fun S X C W O e h _ => t_of O (s_var O h) h rfl rfl) (fun C es => by cases es <;> simp [mtEs]) (fun C o => by cases o <;> simp [mtO]) (fun C es => by simp [mtC]) (fun C tx e => by simp [mtI])
  | bvar i => exact px_plain (fun S X C W O e h => s_bvar O h) (fun S X C W O e h _ => t_of O (s_bvar O h) h rfl rfl) (fun C es => by cases es <;> simp [mtEs]) (fun C o => by cases o <;> simp [mtO]) (fun C es => by simp [mtC]) (fun C tx e => by simp [mtI])
  | lit d => exact px_plain (fun S X C W O e h => s_lit h) (fun S X C W O e h _ => t_of O (s_lit h) h rfl rfl) (fun C es => by cases es <;> simp [mtEs]) (fun C o => by cases o <;> simp [mtO]) (fun C es => by simp [mtC]) (fun C tx e => by simp [mtI])
  | gcon x d => exact px_plain (fun S X C W O e h => s_gcon O h) (fun S X C W O e h _ => t_of O (s_gcon O h) h rfl rfl) (fun C es => by cases es <;> simp [mtEs]) (fun C o => by cases o <;> simp [mtO]) (fun C es => by simp [mtC]) (fun C tx e => by simp [mtI])
  | bin o a b ha hb => exact px_plain (fun S X C W O e h => s_bin O (ha.e S X C W O) (hb.e S X C W O) h) (fun S X C W O e h _ => t_of O (s_bin O (ha.e S X C W O) (hb.e S X C W O) h) h rfl rfl) (fun C es => by cases es <;> simp [mtEs]) (fun C o => by cases o <;> simp [mtO]) (fun C es => by simp [mtC]) (fun C tx e => by simp [mtI])
  | list es hes => exact px_plain (fun S X C W O e h => s_list O (hes.es S X C W O) h) (fun S X C W O e h _ => t_of O (s_list O (hes.es S X C W O) h) h rfl rfl) (fun C es => by cases es <;> simp [mtEs]) (fun C o => by cases o <;> simp [mtO]) (fun C es => by simp [mtC]) (fun C tx e => by simp [mtI])
  | tuple es hes => exact px_plain (fun S X C W O e h => s_tuple O (hes.es S X C W O) h) (fun S X C W O e h _ => t_of O (s_tuple O (hes.es S X C W O) h) h rfl rfl) (fun C es => by cases es <;> simp [mtEs]) (fun C o => by cases o <;> simp [mtO]) (fun C es => by simp [mtC]) (fun C tx e => by simp [mtI])
  | clist es hes => exact px_plain (fun S X C W O e h => s_clist O (hes.es S X C W O) h) (fun S X C W O e h _ => t_of O (s_clist O (hes.es S X C W O) h) h rfl rfl) (fun C es => by cases es <;> simp [mtEs]) (fun C o => by cases o <;> simp [mtO]) (fun C es => by simp [mtC]) (fun C tx e => by simp [mtI])
  | clistof a ha => exact px_plain (fun S X C W O e h => s_clistof O (ha.e S X C W O) h) (fun S X C W O e h _ => t_of O (s_clistof O (ha.e S X C W O) h) h rfl rfl) (fun C es => by cases es <;> simp [mtEs]) (fun C o => by cases o <;> simp [mtO]) (fun C es => by simp [mtC]) (fun C tx e => by simp [mtI])
  | sub a i ha hi => exact px_plain (fun S X C W O e h => s_sub O (ha.e S X C W O) (hi.e S X C W O) h) (fun S X C W O e h _ => t_of O (s_sub O (ha.e S X C W O) (hi.e S X C W O) h) h rfl rfl) (fun C es => by cases es <;> simp [mtEs]) (fun C o => by cases o <;> simp [mtO]) (fun C es => by simp [mtC]) (fun C tx e => by simp [mtI])
  | slice a lo hi ha hlo hhi => exact px_plain (fun S X C W O e h => s_slice O (ha.e S X C W O) (hlo.o S X C W O) (hhi.o S X C W O) h) (fun S X C W O e h _ => t_of O (s_slice O (ha.e S X C W O) (hlo.o S X C W O) (hhi.o S X C W O) h) h rfl rfl) (fun C es => by cases es <;> simp [mtEs]) (fun C o => by cases o <;> simp [mtO]) (fun C es => by simp [mtC]) (fun C tx e => by simp [mtI])
  | rev a ha => exact px_plain (fun S X C W O e h => s_rev O (ha.e S X C W O) h) (fun S X C W O e h _ => t_of O (s_rev O (ha.e S X C W O) h) h rfl rfl) (fun C es => by cases es <;> simp [mtEs]) (fun C o => by cases o <;> simp [mtO]) (fun C es => by simp [mtC]) (fun C tx e => by simp [mtI])
  | comp elt tg it cond own he hi hc => exact px_plain (fun S X C W O e h => (s_comp O hi.i he.e hc.c h).1) (fun S X C W O e h _ => t_of O ((s_comp O hi.i he.e hc.c h).1) h rfl rfl) (fun C es => by cases es <;> simp [mtEs]) (fun C o => by cases o <;> simp [mtO]) (fun C es => by simp [mtC]) (fun C tx e => by simp [mtI])
  | call n es hes => exact px_plain (fun S X C W O e h => s_call O (hes.es S X C W O) h) (fun S X C W O e h _ => t_of O (s_call O (hes.es S X C W O) h) h rfl rfl) (fun C es => by cases es <;> simp [mtEs]) (fun C o => by cases o <;> simp [mtO]) (fun C es => by simp [mtC]) (fun C tx e => by simp [mtI])
  | callb n es hes => exact px_plain (fun S X C W O e h => s_callb O (hes.es S X C W O) h) (fun S X C W O e h _ => t_of O (s_callb O (hes.es S X C W O) h) h rfl rfl) (fun C es => by cases es <;> simp [mtEs]) (fun C o => by cases o <;> simp [mtO]) (fun C es => by simp [mtC]) (fun C tx e => by simp [mtI])
  | b1 o a ha => exact px_plain (fun S X C W O e h => s_b1 O (ha.e S X C W O) h) (fun S X C W O e h _ => t_of O (s_b1 O (ha.e S X C W O) h) h rfl rfl) (fun C es => by cases es <;> simp [mtEs]) (fun C o => by cases o <;> simp [mtO]) (fun C es => by simp [mtC]) (fun C tx e => by simp [mtI])
  | b2 o a b ha hb => exact px_plain (fun S X C W O e h => s_b2 O (ha.e S X C W O) (hb.e S X C W O) h) (fun S X C W O e h _ => t_of O (s_b2 O (ha.e S X C W O) (hb.e S X C W O) h) h rfl rfl) (fun C es => by cases es <;> simp [mtEs]) (fun C o => by cases o <;> simp [mtO]) (fun C es => by simp [mtC]) (fun C tx e => by simp [mtI])
  | lrng a ha => exact px_plain (fun S X C W O e h => s_lrng O (ha.e S X C W O) h) (fun S X C W O e h _ => t_of O (s_lrng O (ha.e S X C W O) h) h rfl rfl) (fun C es => by cases es <;> simp [mtEs]) (fun C o => by cases o <;> simp [mtO]) (fun C es => by simp [mtC]) (fun C tx e => by simp [mtI])
  | isI t a ha => exact px_plain (fun S X C W O e h => s_isI O (ha.e S X C W O) h) (fun S X C W O e h _ => t_of O (s_isI O (ha.e S X C W O) h) h rfl rfl) (fun C es => by cases es <;> simp [mtEs]) (fun C o => by cases o <;> simp [mtO]) (fun C es => by simp [mtC]) (fun C tx e => by simp [mtI])
  | meth o a b ha hb => exact px_plain (fun S X C W O e h => s_meth O (ha.e S X C W O) (hb.e S X C W O) h) (fun S X C W O e h _ => t_of O (s_meth O (ha.e S X C W O) (hb.e S X C W O) h) h rfl rfl) (fun C es => by cases es <;> simp [mtEs]) (fun C o => by cases o <;> simp [mtO]) (fun C es => by simp [mtC]) (fun C tx e => by simp [mtI])
end
end Tv

set_option Elab.async false
set_option linter.all false
set_option maxRecDepth 100000
/-! Soundness of statements. -/
namespace Tv
open PySem PySem.Spec PyProof.Rows L2

/-- a def is left: its locals are nobody's -/
structure StepF (γ : List Addr) (loc : Lc) (H : Hp) (γ' : List Addr) (H' : Hp) : Prop where
  keep : ∀ a o, a ∉ γ → (∀ i, loc i ≠ some a) → H a = some o → H' a = some o
  live : ∀ a, H a ≠ none → H' a ≠ none
  grow : γ <+: γ'
  newg : ∀ a, a ∈ γ' → a ∈ γ ∨ H a = none
theorem Step.f {γ γ' : List Addr} {loc loc' : Lc} {H H' : Hp} (s : Step γ loc H γ' loc' H') : StepF γ loc H γ' H' := ⟨s.keep, s.live, s.grow, s.newg⟩
theorem StepF.after {γ γ' γ2 : List Addr} {loc loc' : Lc} {H H' H2 : Hp} (a : Step γ loc H γ' loc' H') (b : StepF γ' loc' H' γ2 H2) : StepF γ loc H γ2 H2 where
  keep := fun c o h1 h2 e => b.keep c o (fun z => (a.newg c z).elim h1 fun q => by rw [e] at q; cases q) (fun i z => (a.newl i c z).elim (fun ⟨j, q⟩ => h2 j q) fun q => by rw [e] at q; cases q) (a.keep c o h1 h2 e)
  live := fun c h => b.live c (a.live c h)
  grow := a.grow.trans b.grow
  newg := fun c h => by
    rcases b.newg c h with q | q
    · exact a.newg c q
    · refine .inr ?_
      cases e : H c with
      | none => rfl
      | some o => exact absurd q (a.live c (by rw [e]; simp))
def OutOk (S : Se) (W : WX) (D : Ends) (γ : List Addr) (loc : Lc) (H : Hp) : Out → Prop
  | .nx e g' => ∀ σ' H' γ' loc', S.R e g' σ' H' γ' loc' → Step γ loc H γ' loc' H' → D.nx σ' H'
  | .brk e g' => ∀ σ' H' γ' loc', S.R e g' σ' H' γ' loc' → Step γ loc H γ' loc' H' → D.bk σ' H'
  | .cnt e g' => ∀ σ' H' γ' loc', S.R e g' σ' H' γ' loc' → Step γ loc H γ' loc' H' → D.ct σ' H'
  | .ret d g' => ∀ v H' γ', SR S.K S.XR S.ext [] [] g' [] H' γ' (fun _ => none) → StepF γ loc H γ' H' → Rp S.K S.XR (Fp γ' (fun _ => none) S.ext) γ' H' d v → D.rt v H'
  | .err c e g' => ∀ σ' H' γ' loc', S.R e g' σ' H' γ' loc' → Step γ loc H γ' loc' H' → W (S.cv c) none σ' H'
  | .stuck => False
def tS (S : Se) (W : WX) (s : St) : TS := fun D σ H => ∃ env g γ loc, S.R env g σ H γ loc ∧ OutOk S W D γ loc H (evS S.T s env g)

section
variable {S : Se} {X : Cx} {C : Ct} {k : Nat} {W : WX} {De : Ends} {env env1 : Env} {g g1 : G} {σ σ1 : L2.St} {H H1 : Hp} {γ γ1 : List Addr} {loc loc1 : Lc} {st : Stmt}

theorem OutOk.after {o : Out} (R : S.R env g σ H γ loc) (s : Step γ loc H γ1 loc1 H1) (h : OutOk S W De γ loc H o) : OutOk S W De γ1 loc1 H1 o := by
  cases o with
  | nx e g' => exact fun σ' H' γ' loc' R' s' => h σ' H' γ' loc' R' (s.trans s' R.cellne)
  | brk e g' => exact fun σ' H' γ' loc' R' s' => h σ' H' γ' loc' R' (s.trans s' R.cellne)
  | cnt e g' => exact fun σ' H' γ' loc' R' s' => h σ' H' γ' loc' R' (s.trans s' R.cellne)
  | err c e g' => exact fun σ' H' γ' loc' R' s' => h σ' H' γ' loc' R' (s.trans s' R.cellne)
  | ret d g' => exact fun v H' γ' R' s' r => h v H' γ' R' (.after s s') r
  | stuck => exact h
/-- a statement's expression -/
theorem out_sat {α : Type} {m : Res α} {f : α → G → Out} (h : OutOk S W De γ loc H (m.out env f)) : Sat m (fun a g => OutOk S W De γ loc H (f a g)) (Er S W env σ H γ loc) := by
  cases m with
  | ok a g => exact h
  | err c g => exact fun H' γ' R' s' => h σ H' γ' loc R' s'.toStep
  | stuck => exact h
/-- one expression, then the rest -/
theorem st1 {a : Ex} {f : D → G → Out} {Rr : V → Hp → Prop} (R : S.R env g σ H γ loc) (h : OutOk S W De γ loc H ((evE S.T a env g).out env f))
    (fin : ∀ d1 g2 v1 H2 γ2, S.R env g2 σ H2 γ2 loc → StE γ loc H γ2 H2 → Pst S (fl a) env loc H γ2 H2 d1 v1 → OutOk S W De γ2 loc H2 (f d1 g2) → Rr v1 H2) : tE S W a σ H Rr :=
  ⟨env, g, γ, loc, R, (out_sat (σ := σ) h).mono (fun d1 g1 h1 v1 H1 γ1 R1 s1 p1 => fin d1 g1 v1 H1 γ1 R1 s1 p1 (h1.after R s1.toStep)) fun _ _ x => x⟩

theorem s_pass : PS X (.Pass p) (tS S W .pass) := PS.weak ps_pass fun D σ H ⟨env, g, γ, loc, R, q⟩ => q σ H γ loc R .refl
theorem s_brk : PS X (.Break p) (tS S W .brk) := PS.weak ps_break fun D σ H ⟨env, g, γ, loc, R, q⟩ => q σ H γ loc R .refl
theorem s_cnt : PS X (.Continue p) (tS S W .cnt) := PS.weak ps_continue fun D σ H ⟨env, g, γ, loc, R, q⟩ => q σ H γ loc R .refl
theorem s_retn : PS X (.Return none p) (tS S W .retn) := PS.weak ps_retN fun D σ H ⟨env, g, γ, loc, R, q⟩ => q .non H γ (SR.enterB R) Step.refl.f .non
theorem sub_none : ∀ a, Fp γ (fun _ => none) S.ext a → Fp γ loc S.ext a := fun a z => by
  rcases z with z | ⟨j, z⟩ | z
  · exact .inl z
  · cases z
  · exact .inr (.inr z)
theorem s_ret {x : Ex} {e : Expr} {p : Pos} (O : XOk S X C k W) (h : mtS C (.ret x) (.Return (some e) p) = true) : PS X (.Return (some e) p) (tS S W (.ret x)) := by
  have h' : mtE C x e = true ∧ isBor x = false := by simpa [mtS] using h
  refine PS.weak (ps_ret ((px k x).e S X C W O e h'.1)) fun D σ H ⟨env, g, γ, loc, R, q⟩ => ?_
  simp only [evS] at q
  refine st1 R q fun d1 g2 v1 H2 γ2 R2 s2 p1 q2 => ?_
  exact q2 v1 H2 γ2 (SR.enterB R2) Step.refl.f ((p1.rp (isBor_fl h'.2)).mono (fp_sub sub_none))
theorem s_retm {i : Nat} {e : Expr} {p : Pos} (O : XOk S X C k W) (h : mtS C (.retm i) (.Return (some e) p) = true) : PS X (.Return (some e) p) (tS S W (.retm i)) := by
  simp only [mtS] at h
  split at h
  · rename_i x hx
    obtain ⟨p2, rfl⟩ := dName_eq hx
    simp only [Bool.and_eq_true] at h
    obtain ⟨n1, n2, n3, n4⟩ := isVar_ok O h.1
    have hm : i ∈ S.M := by rw [O.M]; simpa using h.2
    refine PS.weak (ps_ret (pe_var n1 n2 n3 n4)) fun D σ H ⟨env, g, γ, loc, R, q⟩ => ?_
    simp only [evS] at q
    cases hd : gt env i with
    | none => rw [hd] at q; exact q.elim
    | some d =>
      rw [hd] at q
      obtain ⟨a, xs, ds, rfl, e1, e2, e3, r⟩ := R.slotM i d hm hd
      obtain ⟨a1, a2⟩ := R.apart i a e1
      refine ⟨_, e2, q _ H γ (SR.enterB R) Step.refl.f ?_⟩
      unfold Rp
      refine ⟨a, xs, rfl, ⟨e3, ?_⟩, r.mono (fp_sub sub_none)⟩
      rintro (z | ⟨j, z⟩ | z)
      · exact a1 z
      · cases z
      · exact a2 z
  · cases h
theorem s_rett {es : Ex} {e : Expr} {p : Pos} (O : XOk S X C k W) (h : mtS C (.rett es) (.Return (some e) p) = true) : PS X (.Return (some e) p) (tS S W (.rett es)) := by
  simp only [mtS] at h
  split at h
  · rename_i xs hx
    obtain ⟨kk, p2, rfl⟩ := dTup_eq hx
    simp only [Bool.and_eq_true, decide_eq_true_eq] at h
    refine PS.weak (ps_ret (pe_tup ((px k es).es S X C W O _ h.1))) fun D σ H ⟨env, g, γ, loc, R, q⟩ => ?_
    simp only [evS] at q
    cases e1 : evEs S.T es env g with
    | stuck => rw [e1] at q; exact q.elim
    | err c g' => rw [e1] at q; exact ⟨env, g, γ, loc, R, by rw [e1]; exact fun H' γ' R' s' => q σ H' γ' loc R' s'.toStep⟩
    | ok ds g' =>
      rw [e1] at q
      refine ⟨env, g, γ, loc, R, ?_⟩
      rw [e1]
      intro vs H1 γ1 R1 s1 l n
      have hl : ds.length = xs.length := mtEs_len _ h.1 e1
      have r := ValL.rp R1 l
      refine ⟨by rw [r.len, hl]; exact len_small h.2, fun p hp => ?_⟩
      obtain ⟨R2, s2⟩ := alloc_new R1 O.xr (o := .tup vs) hp
      refine OutOk.after R1 s2.toStep (OutOk.after R s1.toStep q) (.ref p) _ γ1 (SR.enterB R2) Step.refl.f ?_
      unfold Rp
      refine ⟨p, vs, rfl, SqT.of upd_same, ?_⟩
      exact r.mono ((Next.alloc hp).mono O.xr (SR.enterB R1))
  · cases h
theorem sw_false {e : Expr} {t : Option Expr} {l : Nat} {env : PySem.Env} (h : isLC e = false) : swapsWith e t l env = pure false := by
  cases e <;> first | rfl | cases h
theorem sw_lc {C : Ct} {e : Expr} {n : Str} {p : Pos} {l : Nat} {env : PySem.Env} (hk : env.scope.kind = .function) (hs : env.scope = C.sc) (ni : nice e = true) : swapsWith e (some (.Name n p)) l env = pure (swB C e n p l) ∨ isLC e = true ∧ ∀ a b c d, e ≠ .ListComp a b c d := by
  cases e with
  | ListComp x gs s q =>
    left
    have hb : env.blockKind = .function := by unfold Env.blockKind; rw [hk]; rfl
    unfold swapsWith swB
    simp only [hb, Expr.pos]
    rw [← hs]
    unfold PySem.Env.kindOf
    cases env.scope.names.lookup n with
    | none => rfl
    | some kk => cases kk <;> rfl
  | SetComp => right; exact ⟨rfl, fun a b c d z => by cases z⟩
  | DictComp => right; exact ⟨rfl, fun a b c d z => by cases z⟩
  | _ => left; rfl
theorem lc_form {x : Ex} {a : Expr} {gs : List Comprehension} {s : Scope} {q : Pos} (h : mtE C x (.ListComp a gs s q) = true) : ∃ elt tg it cond own, x = .comp elt tg it cond own := by
  cases x with
  | comp elt tg it cond own => exact ⟨_, _, _, _, _, rfl⟩
  | b1 o a => cases o <;> simp [mtE, dCall] at h
  | _ => simp [mtE, dAttr, dName, dCst, dBin, dUn, dBool, dCmp, dIf, dList, dTup, dSub, dCall, dMeth] at h
theorem nc_form {x : Ex} {e : Expr} (h : mtE C x e = true) (hl : isLC e = true) : ∃ a gs s q, e = .ListComp a gs s q := by
  cases e with
  | ListComp a gs s q => exact ⟨a, gs, s, q, rfl⟩
  | SetComp => exfalso; cases x with
    | b1 o a => cases o <;> simp [mtE, dCall] at h
    | _ => simp [mtE, dAttr, dName, dCst, dBin, dUn, dBool, dCmp, dIf, dList, dTup, dSub, dCall, dMeth, dComp] at h
  | DictComp => exfalso; cases x with
    | b1 o a => cases o <;> simp [mtE, dCall] at h
    | _ => simp [mtE, dAttr, dName, dCst, dBin, dUn, dBool, dCmp, dIf, dList, dTup, dSub, dCall, dMeth, dComp] at h
  | _ => cases hl
/-- name = e, whatever e is -/
theorem asg_ps {i : Nat} {x : Ex} {n : Str} {e : Expr} {p py : Pos} (O : XOk S X C k W) (hk : X.env.scope.kind = .function) (h1 : C.isTg i n = true) (h2 : mtE C x e = true) : PS X (.Assign [.Name n py] e p) (tAsg (tE S W x) (gName i)) := by
  obtain ⟨n1, n2, n3⟩ := isTg_ok O h1
  have pe := (px k x).e S X C W O e h2
  cases hl : isLC e with
  | false => exact ps_set (by rw [O.N]; exact O.nd) n1 n2 pe (sw_false hl) n3
  | true =>
    obtain ⟨a, gs, s, q, rfl⟩ := nc_form h2 hl
    obtain ⟨elt, tg, it, cond, own, rfl⟩ := lc_form h2
    rcases sw_lc (C := C) (n := n) (p := py) (l := p.line) hk O.sc (nice_of h2) with sw | ⟨_, sw⟩
    · cases hb : swB C (.ListComp a gs s q) n py p.line with
      | false => rw [hb] at sw; exact ps_set (by rw [O.N]; exact O.nd) n1 n2 pe sw n3
      | true =>
        rw [hb] at sw
        have hlo : X.env.scope.names.lookup n = some .local := by
          rw [O.sc]
          unfold swB at hb
          simp only [Bool.and_eq_true] at hb
          obtain ⟨⟨hb, _⟩, _⟩ := hb
          split at hb
          · assumption
          · cases hb
        exact (s_comp O (px k it).i (px k elt).e (px k cond).c h2).2 i n py p n1 hlo sw
    · exact absurd rfl (sw _ _ _ _)
theorem s_asg {i : Nat} {x : Ex} {t e : Expr} {p : Pos} (O : XOk S X C k W) (hk : X.env.scope.kind = .function) (h : mtS C (.asg i x) (.Assign [t] e p) = true) : PS X (.Assign [t] e p) (tS S W (.asg i x)) := by
  simp only [mtS] at h
  split at h
  · rename_i n hn
    obtain ⟨py, rfl⟩ := dName_eq hn
    simp only [Bool.and_eq_true, Bool.not_eq_true'] at h
    obtain ⟨⟨⟨h1, h2⟩, h3⟩, h4⟩ := h
    have hm : i ∉ S.M := by rw [O.M]; simpa using h2
    refine PS.weak (asg_ps O hk h1 h3) fun D σ H ⟨env, g, γ, loc, R, q⟩ => ?_
    simp only [evS] at q
    refine st1 R q fun d1 g2 v1 H2 γ2 R2 s2 p1 q2 => ?_
    exact q2 _ H2 γ2 loc (SR.setN R2 hm (p1.rp (isBor_fl h4))) .refl
  · cases h
/-- an owner's slot is given a new list -/
theorem SR.setM {i : Nat} {p : Addr} {xs : List V} {ds : List Tv.D} (R : S.R env g σ H γ loc) (hm : i ∈ S.M) (hi : i < σ.length) (e : H p = some (.lst xs)) (r : RpL S.K S.XR (Fp γ loc S.ext) γ H ds xs) (nf : ¬ Fp γ loc S.ext p)
    (fr : ∀ j d, j ∉ S.M → gt env j = some d → ∃ v, σ[j]? = some (some v) ∧ Rp S.K S.XR (fun a => Fp γ loc S.ext a ∨ a = p) γ H d v)
    (frm : ∀ j a ys d, loc j = some a → H a = some (.lst ys) → gt env j = some (.lst d) → RpL S.K S.XR (fun a => Fp γ loc S.ext a ∨ a = p) γ H d ys)
    (rp : RpL S.K S.XR (fun a => Fp γ loc S.ext a ∨ a = p) γ H ds xs) : S.R (Tv.st env i (some (.lst ds))) g (σ.set i (some (.ref p))) H γ (fun j => if j = i then some p else loc j) := by
  have sub : ∀ a, Fp γ (fun j => if j = i then some p else loc j) S.ext a → Fp γ loc S.ext a ∨ a = p := by
    intro a z
    rcases z with z | ⟨j, z⟩ | z
    · exact .inl (.inl z)
    · by_cases hj : j = i
      · simp only [hj, if_true] at z; cases z; exact .inr rfl
      · simp only [hj, if_false] at z; exact .inl (.inr (.inl ⟨j, z⟩))
    · exact .inl (.inr (.inr z))
  refine { len := by rw [st_len, List.length_set]; exact R.len, gl := R.gl, gnd := R.gnd, cells := R.cells, ex := R.ex, slotM := ?_, slotN := ?_, live := ?_, inj := ?_, apart := ?_ }
  · intro j d hj hd
    rw [gt_st] at hd
    by_cases hij : i = j
    · subst hij
      rw [if_pos ⟨rfl, R.len ▸ hi⟩] at hd
      cases hd
      exact ⟨p, xs, ds, rfl, by simp, by rw [List.getElem?_set_self hi], e, rp.mono (fp_sub sub)⟩
    · rw [if_neg (fun z => hij z.1)] at hd
      obtain ⟨a, ys, es, e1, e2, e3, e4, r4⟩ := R.slotM j d hj hd
      subst e1
      exact ⟨a, ys, es, rfl, by simp [Ne.symm hij, e2], by rw [List.getElem?_set_ne hij]; exact e3, e4, (frm j a ys es e2 e4 hd).mono (fp_sub sub)⟩
  · intro j d hj hd
    have hij : i ≠ j := fun z => hj (z ▸ hm)
    rw [gt_st, if_neg (fun z => hij z.1)] at hd
    obtain ⟨v, e1, r1⟩ := fr j d hj hd
    exact ⟨v, by rw [List.getElem?_set_ne hij]; exact e1, r1.mono (fp_sub sub)⟩
  · intro j a h
    by_cases hij : j = i
    · subst hij
      exact ⟨hm, .lst ds, by rw [gt_st, if_pos ⟨rfl, R.len ▸ hi⟩]⟩
    · simp only [hij, if_false] at h
      obtain ⟨h1, d, h2⟩ := R.live j a h
      exact ⟨h1, d, by rw [gt_st, if_neg (fun z => hij z.1.symm)]; exact h2⟩
  · intro j l a h1 h2
    by_cases hj : j = i
    · by_cases hl : l = i
      · rw [hj, hl]
      · simp only [hj, if_true] at h1
        simp only [hl, if_false] at h2
        cases h1
        exact absurd (.inr (.inl ⟨l, h2⟩)) nf
    · by_cases hl : l = i
      · simp only [hj, if_false] at h1
        simp only [hl, if_true] at h2
        cases h2
        exact absurd (.inr (.inl ⟨j, h1⟩)) nf
      · simp only [hj, if_false] at h1
        simp only [hl, if_false] at h2
        exact R.inj j l a h1 h2
  · intro j a h
    by_cases hj : j = i
    · simp only [hj, if_true] at h
      cases h
      exact ⟨fun z => nf (.inl z), fun z => nf (.inr (.inr z))⟩
    · simp only [hj, if_false] at h
      exact R.apart j a h
theorem s_asgm {i : Nat} {x : Ex} {t e : Expr} {p : Pos} (O : XOk S X C k W) (hk : X.env.scope.kind = .function) (h : mtS C (.asgm i x) (.Assign [t] e p) = true) : PS X (.Assign [t] e p) (tS S W (.asgm i x)) := by
  simp only [mtS] at h
  split at h
  · rename_i n hn
    obtain ⟨py, rfl⟩ := dName_eq hn
    simp only [Bool.and_eq_true] at h
    obtain ⟨⟨⟨h1, h2⟩, h3⟩, h4⟩ := h
    have hm : i ∈ S.M := by rw [O.M]; simpa using h2
    have hfl : fl x = .new := by
      cases hf : fl x with
      | new => rfl
      | any => rw [hf] at h4; cases h4
      | bor => rw [hf] at h4; cases h4
    refine PS.weak (asg_ps O hk h1 h3) fun D σ H ⟨env, g, γ, loc, R, q⟩ => ?_
    simp only [evS] at q
    refine ⟨env, g, γ, loc, R, (out_sat (σ := σ) q).mono (fun d1 g2 q2 v1 H2 γ2 R2 s2 p1 => ?_) fun _ _ x => x⟩
    rw [hfl] at p1
    rcases p1 with ⟨hs, _⟩ | ⟨a, xs, ds, hp, e2, rfl, rfl, r, nf⟩
    · cases d1 with
      | lst _ => cases hs
      | _ => exact q2.elim
    · simp only at q2
      split at q2
      · rename_i hi
        have m := avoid (s2.mono (loc' := loc) R O.xr) hp
        refine q2 _ H2 γ2 _ (SR.setM R2 hm (R2.len ▸ hi) e2 (r.mono (fp_sub fun a z => .inl z)) nf (fun j d hj hd => ?_) (fun j b ys d hl hb hd => ?_) ?_) ?_
        · obtain ⟨v, e1, r1⟩ := R.slotN j d hj hd
          exact ⟨v, e1, r1.mono m⟩
        · obtain ⟨b', zs, es, e3, e4, _, e5, r5⟩ := R.slotM j _ (R.live j b hl).1 hd
          rw [hl] at e4; cases e4
          cases e3
          rw [s2.own j b hl, e5] at hb
          cases hb
          exact r5.mono m
        · exact r
        · refine ⟨s2.keep, s2.live, s2.grow, s2.newg, fun j b hb => ?_⟩
          by_cases hj : j = i
          · simp only [hj, if_true] at hb
            cases hb; exact .inr hp
          · simp only [hj, if_false] at hb
            exact .inl ⟨j, hb⟩
      · exact q2.elim
  · cases h
end
end Tv

set_option Elab.async false
set_option linter.all false
set_option maxRecDepth 100000
/-! Soundness of statements, further. -/
namespace Tv
open PySem PySem.Spec PyProof.Rows L2

section
variable {S : Se} {X : Cx} {C : Ct} {k : Nat} {W : WX} {De : Ends} {env env1 : Env} {g g1 : G} {σ σ1 : L2.St} {H H1 : Hp} {γ γ1 : List Addr} {loc loc1 : Lc} {st : Stmt}

/-- an owner's list is written -/
theorem SR.mut {i : Nat} {p : Addr} {vs : List V} {ds es : List Tv.D} (R : S.R env g σ H γ loc) (hx : XRok S.XR) (hm : i ∈ S.M) (hl : loc i = some p) (he : gt env i = some (.lst es)) (r : RpL S.K S.XR (Fp γ loc S.ext) γ H ds vs) :
    S.R (Tv.st env i (some (.lst ds))) g σ (upd H p (.lst vs)) γ loc ∧ Step γ loc H γ loc (upd H p (.lst vs)) := by
  obtain ⟨ys, ep⟩ := R.own hl
  obtain ⟨ap1, ap2⟩ := R.apart i p hl
  have m : Mono S.XR (Fp γ loc S.ext) γ H (Fp γ loc S.ext) γ (upd H p (.lst vs)) := by
    refine ⟨fun a xs e f => ⟨?_, f⟩, fun a o ho e => ?_, List.prefix_refl _, fun c a h => hx c a H h _ fun b hb o e => ?_⟩
    · rw [upd_ne (fun (z : a = p) => f (.inr (.inl ⟨i, z ▸ hl⟩)))]; exact e
    · rw [upd_ne (fun (z : a = p) => by rw [z, ep] at e; cases e; exact ho _ rfl)]; exact e
    · rw [upd_ne (fun (z : b = p) => hb ys (z ▸ ep))]; exact e
  have hil : i < env.length := by
    have : ∀ (e : Env) (i : Nat) (d : Tv.D), gt e i = some d → i < e.length := by
      intro e
      induction e with
      | nil => intro i d h; simp [gt] at h
      | cons x r ih =>
        intro i d h
        cases i with
        | zero => simp
        | succ i => have := ih i d h; simp; omega
    exact this _ _ _ he
  refine ⟨{ len := by rw [st_len]; exact R.len, gl := R.gl, gnd := R.gnd, cells := ?_, ex := ?_, slotM := ?_, slotN := ?_, live := ?_, inj := R.inj, apart := R.apart }, ?_⟩
  · intro n a c e1 e2
    have q := R.cells n a c e1 e2
    cases c with
    | ins _ _ => exact q.elim
    | lst fs =>
      obtain ⟨nl, xs, e3, r3⟩ := q
      refine ⟨nl, xs, ?_, RpL.F0 nl ((r3.nol _ _ nl).mono m)⟩
      rw [upd_ne (fun (z : a = p) => ap1 (z ▸ List.mem_of_getElem? e1))]; exact e3
  · intro a h
    by_cases z : a = p
    · subst z; rw [upd_same]; simp
    · rw [upd_ne z]; exact R.ex a h
  · intro j d hj hd
    rw [gt_st] at hd
    by_cases hij : i = j
    · subst hij
      rw [if_pos ⟨rfl, hil⟩] at hd
      cases hd
      obtain ⟨a, xs, fs, _, e2, e3, _, _⟩ := R.slotM i _ hj he
      rw [hl] at e2; cases e2
      exact ⟨p, vs, ds, rfl, hl, e3, upd_same, r.mono m⟩
    · rw [if_neg (fun z => hij z.1)] at hd
      obtain ⟨a, xs, fs, e1, e2, e3, e4, r4⟩ := R.slotM j d hj hd
      refine ⟨a, xs, fs, e1, e2, e3, ?_, r4.mono m⟩
      rw [upd_ne (fun (z : a = p) => hij (R.inj i j p hl (z ▸ e2)))]; exact e4
  · intro j d hj hd
    have hij : i ≠ j := fun z => hj (z ▸ hm)
    rw [gt_st, if_neg (fun z => hij z.1)] at hd
    obtain ⟨v, e1, r1⟩ := R.slotN j d hj hd
    exact ⟨v, e1, r1.mono m⟩
  · intro j a h
    obtain ⟨h1, d, h2⟩ := R.live j a h
    refine ⟨h1, ?_⟩
    rw [gt_st]
    split
    · exact ⟨_, rfl⟩
    · exact ⟨d, h2⟩
  · refine ⟨fun a o h1 h2 e => ?_, fun a h => ?_, List.prefix_refl _, fun a h => .inl h, fun j a h => .inl ⟨j, h⟩⟩
    · rw [upd_ne (fun (z : a = p) => h2 i (z ▸ hl))]; exact e
    · by_cases z : a = p
      · subst z; rw [upd_same]; simp
      · rw [upd_ne z]; exact h
theorem s_mov {i j : Nat} {t e : Expr} {p : Pos} (O : XOk S X C k W) (h : mtS C (.mov i j) (.Assign [t] e p) = true) : PS X (.Assign [t] e p) (tS S W (.mov i j)) := by
  simp only [mtS] at h
  split at h
  · rename_i n m hn hm
    obtain ⟨py, rfl⟩ := dName_eq hn
    obtain ⟨pz, rfl⟩ := dName_eq hm
    simp only [Bool.and_eq_true, Bool.not_eq_true'] at h
    obtain ⟨⟨⟨h1, h2⟩, h3⟩, h4⟩ := h
    have hi : i ∉ S.M := by rw [O.M]; simpa using h2
    have hj : j ∈ S.M := by rw [O.M]; simpa using h4
    obtain ⟨n1, n2, n3⟩ := isTg_ok O h1
    obtain ⟨v1, v2, v3, v4⟩ := isVar_ok O h3
    refine PS.weak (ps_set (by rw [O.N]; exact O.nd) n1 n2 (pe_var v1 v2 v3 v4) (sw_false rfl) n3) fun D σ H ⟨env, g, γ, loc, R, q⟩ => ?_
    simp only [evS] at q
    cases hd : gt env j with
    | none => rw [hd] at q; exact q.elim
    | some d =>
      rw [hd] at q
      obtain ⟨a, xs, ds, rfl, e1, e2, e3, r⟩ := R.slotM j d hj hd
      refine ⟨_, e2, q _ H γ (fun l => if l = j then none else loc l) ?_ ⟨fun _ _ _ _ e => e, fun _ h => h, List.prefix_refl _, fun _ h => .inl h, fun l b h => .inl ⟨l, ?_⟩⟩⟩
      · have sub : ∀ b, Fp γ (fun l => if l = j then none else loc l) S.ext b → Fp γ loc S.ext b := fun b z => by
          rcases z with z | ⟨l, z⟩ | z
          · exact .inl z
          · by_cases hl : l = j
            · simp only [hl, if_true] at z; cases z
            · simp only [hl, if_false] at z; exact .inr (.inl ⟨l, z⟩)
          · exact .inr (.inr z)
        have R2 : S.R (Tv.st env j none) g σ H γ (fun l => if l = j then none else loc l) := by
          refine { len := by rw [st_len]; exact R.len, gl := R.gl, gnd := R.gnd, cells := R.cells, ex := R.ex, slotM := ?_, slotN := ?_, live := ?_, inj := ?_, apart := ?_ }
          · intro l c hl hc
            rw [gt_st] at hc
            split at hc
            · cases hc
            · rename_i hz
              obtain ⟨b, ys, es, f1, f2, f3, f4, r4⟩ := R.slotM l c hl hc
              have hlj : l ≠ j := by
                rintro rfl
                refine hz ⟨rfl, ?_⟩
                have := (List.getElem?_eq_some_iff.mp f3).1
                rw [R.len]; exact this
              exact ⟨b, ys, es, f1, by simp only [hlj, if_false]; exact f2, f3, f4, r4.mono (fp_sub sub)⟩
          · intro l c hl hc
            have hlj : j ≠ l := fun z => hl (z ▸ hj)
            rw [gt_st, if_neg (fun z => hlj z.1)] at hc
            obtain ⟨v, f1, r1⟩ := R.slotN l c hl hc
            exact ⟨v, f1, r1.mono (fp_sub sub)⟩
          · intro l b h
            by_cases hl : l = j
            · simp only [hl, if_true] at h; cases h
            · simp only [hl, if_false] at h
              obtain ⟨w1, c, w2⟩ := R.live l b h
              exact ⟨w1, c, by rw [gt_st, if_neg (fun z => hl z.1.symm)]; exact w2⟩
          · intro l l2 b h1 h2
            by_cases hl : l = j
            · simp only [hl, if_true] at h1; cases h1
            · by_cases hl2 : l2 = j
              · simp only [hl2, if_true] at h2; cases h2
              · simp only [hl, if_false] at h1
                simp only [hl2, if_false] at h2
                exact R.inj l l2 b h1 h2
          · intro l b h
            by_cases hl : l = j
            · simp only [hl, if_true] at h; cases h
            · simp only [hl, if_false] at h; exact R.apart l b h
        refine SR.setN R2 hi ?_
        unfold Rp
        refine ⟨a, xs, rfl, ⟨e3, ?_⟩, r.mono (fp_sub sub)⟩
        obtain ⟨w1, w2⟩ := R.apart j a e1
        rintro (z | ⟨l, z⟩ | z)
        · exact w1 z
        · by_cases hl : l = j
          · simp only [hl, if_true] at z; cases z
          · simp only [hl, if_false] at z
            exact hl (R.inj l j a z e1)
        · exact w2 z
      · by_cases hl : l = j
        · simp only [hl, if_true] at h; cases h
        · simp only [hl, if_false] at h; exact h
  · cases h
theorem s_unp {is : List Nat} {x : Ex} {t e : Expr} {p : Pos} (O : XOk S X C k W) (h : mtS C (.unp is x) (.Assign [t] e p) = true) : PS X (.Assign [t] e p) (tS S W (.unp is x)) := by
  have h' : (((mtTg C (.tup is) t = true ∧ mtE C x e = true) ∧ isTupE e = false) ∧ isBor x = false) ∧ isLC e = false := by simpa [mtS] using h
  obtain ⟨⟨⟨⟨h1, h2⟩, h3⟩, h4⟩, h5⟩ := h'
  have h1' := h1
  simp only [mtTg] at h1'
  split at h1'
  · rename_i ts ht
    obtain ⟨kk, pp, rfl⟩ := dTup_eq ht
    have hw : swappedStores [.Tuple ts kk pp] e X.env = pure none := by
      cases e <;> first | rfl | cases h3
    have hs : swapsWithSole [.Tuple ts kk pp] e p.line X.env = pure false := by unfold swapsWithSole; exact sw_false h5
    refine PS.weak (ps_asg ((px k x).e S X C W O e h2) (pg_ok O h1) hs hw rfl) fun D σ H ⟨env, g, γ, loc, R, q⟩ => ?_
    simp only [evS] at q
    refine st1 (Rr := fun v H1 => gT X.K (.tup is) v σ H1 D.nx) R q fun d1 g2 v1 H2 γ2 R2 s2 p1 q2 => ?_
    cases es : setTg (.tup is) d1 env with
    | none => rw [es] at q2; exact q2.elim
    | some env1 =>
      rw [es] at q2
      rw [← O.K]
      refine tg_ok (own := []) (C := C) O.M O.xr es h1 R2 (.inl ⟨rfl, p1.rp (isBor_fl h4)⟩) fun σ' R' n' _ => ?_
      exact q2 σ' H2 γ2 loc R' (n'.ste R2).toStep
  · cases h1'
theorem s_aug {i : Nat} {o : Bop} {x : Ex} {t e : Expr} {op : Operator} {p : Pos} (O : XOk S X C k W) (h : mtS C (.aug i o x) (.AugAssign t op e p) = true) : PS X (.AugAssign t op e p) (tS S W (.aug i o x)) := by
  simp only [mtS] at h
  split at h
  · rename_i n hn
    obtain ⟨py, rfl⟩ := dName_eq hn
    simp only [Bool.and_eq_true, Bool.not_eq_true'] at h
    obtain ⟨⟨⟨⟨h1, h2⟩, h3⟩, h4⟩, h5⟩ := h
    have hm : i ∉ S.M := by rw [O.M]; simpa using h3
    obtain ⟨n1, n2, n3⟩ := isTg_ok O h1
    have ip : PIp X op (fun x y H Q => ∃ a b d, x = .int a ∧ y = .int b ∧ binD o (.int a) (.int b) = some d ∧ (∀ c, d = .int c → Q (.int c) H)) := by
      intro pins s σ H x y v u Q I r1 r2 ⟨a, b, d, e1, e2, e3, q⟩
      subst e1 e2
      cases o with
      | add =>
        cases op <;> first | (cases h4; done) | skip
        cases e3
        exact ip_add pins s σ H _ _ v u Q I r1 r2 ⟨a, b, rfl, rfl, q _ rfl⟩
      | sub =>
        cases op <;> first | (cases h4; done) | skip
        cases e3
        exact ip_sub pins s σ H _ _ v u Q I r1 r2 ⟨a, b, rfl, rfl, q _ rfl⟩
      | mul =>
        cases op <;> first | (cases h4; done) | skip
        simp only [binD] at e3
        split at e3
        · rename_i hb
          cases e3
          obtain ⟨t1, rfl⟩ := r1
          obtain ⟨t2, rfl⟩ := r2
          have hb' : CMul a b := hb
          exact PyProof.Rows.imul_int ⟨.int _, H, I.tok _, ⟨_, rfl⟩, q _ rfl⟩ hb'.ok
        · cases e3
      | fdiv => cases op <;> cases h4
      | mod => cases op <;> cases h4
      | pow => cases op <;> cases h4
    refine PS.weak (ps_aug (by rw [O.N]; exact O.nd) n1 n2 ((px k x).e S X C W O e h5) ip n3) fun D σ H ⟨env, g, γ, loc, R, q⟩ => ?_
    simp only [evS] at q
    cases hd : gt env i with
    | none => rw [hd] at q; exact q.elim
    | some d =>
      rw [hd] at q
      cases d with
      | int a =>
        obtain ⟨v, e1, r1⟩ := R.slotN i _ hm hd
        unfold Rp at r1
        subst r1
        refine ⟨_, e1, ?_⟩
        refine st1 (Rr := fun y H1 => ∃ a' b d, V.int a = .int a' ∧ y = .int b ∧ binD o (.int a') (.int b) = some d ∧ ∀ c, d = .int c → D.nx (σ.set i (some (.int c))) H1) R q fun d1 g2 v1 H2 γ2 R2 s2 p1 q2 => ?_
        cases d1 with
        | int b =>
          have := (p1.val.op R2).int; subst this
          simp only at q2
          cases hb : binD o (.int a) (.int b) with
          | none => rw [hb] at q2; exact q2.elim
          | some y =>
            rw [hb] at q2
            refine ⟨a, b, y, rfl, rfl, hb, fun c ec => ?_⟩
            subst ec
            exact q2 _ H2 γ2 loc (SR.setN R2 hm .int) .refl
        | _ => exact q2.elim
      | _ => exact q.elim
  · cases h
theorem s_app {i : Nat} {x : Ex} {e : Expr} {p : Pos} (O : XOk S X C k W) (h : mtS C (.app i x) (.Expr e p) = true) : PS X (.Expr e p) (tS S W (.app i x)) := by
  simp only [mtS] at h
  split at h
  · rename_i o m y hx
    obtain ⟨pa, pc, rfl, hl⟩ := dMeth_eq hx
    split at h
    · rename_i n hn
      obtain ⟨py, eo⟩ := dName_eq hn
      subst eo
      simp only [Bool.and_eq_true, Bool.not_eq_true'] at h
      obtain ⟨⟨⟨⟨h1, h2⟩, h3⟩, h4⟩, h5⟩ := h
      have em : m = "append" := by simpa using h3
      subst em
      have hm : i ∈ S.M := by rw [O.M]; simpa using h2
      obtain ⟨v1, v2, v3, v4⟩ := isVar_ok O h1
      have ny := nice_of h4
      refine PS.weak (ps_expr (pe_bm PySem.F.plainAttrs_list PySem.F.slot_list_append PySem.F.type_list_append mt_append (pe_var v1 v2 v3 v4) (pa_cons ((px k x).e S X C W O _ h4) pa_nil (star_eq ny _ _)) rfl (by rw [star_eq ny]; rfl) hl (star_eq ny _ _) rfl) (sw_false rfl)) fun D σ H ⟨env, g, γ, loc, R, q⟩ => ?_
      simp only [evS] at q
      cases hd : gt env i with
      | none => rw [hd] at q; exact q.elim
      | some d =>
        obtain ⟨a, xs, ds, rfl, e1, e2, e3, r⟩ := R.slotM i d hm hd
        rw [hd] at q
        simp only at q
        refine ⟨_, e2, .inl ⟨rfl, _, SqL.of e3⟩, ?_⟩
        refine st1 (Rr := fun v H1 => rAppend (.ref a) [v] H1 fun _ H' => D.nx σ H') R q fun d1 g2 v1 H2 γ2 R2 s2 p1 q2 => ?_
        split at q2
        · rename_i hc
          obtain ⟨a2, ys, es, ee, f1, f2, f3, r2⟩ := R2.slotM i _ hm hd
          cases ee
          rw [e1] at f1; cases f1
          refine ⟨a, ys, v1, rfl, rfl, f3, ?_, ?_⟩
          · rw [r2.len]; exact Nat.lt_of_lt_of_le hc (by decide)
          · obtain ⟨R3, s3⟩ := SR.mut R2 O.xr hm e1 hd (r2.append (.cons (p1.rp (isBor_fl h5)) .nil))
            exact q2 σ _ γ2 loc R3 s3
        · exact q2.elim
    · cases h
  · cases h
end
end Tv

set_option Elab.async false
set_option linter.all false
set_option maxRecDepth 100000
/-! Soundness of statements: stores, branches, loops. -/
namespace Tv
open PySem PySem.Spec PyProof.Rows L2

section
variable {S : Se} {X : Cx} {C : Ct} {k : Nat} {W : WX} {De : Ends} {env env1 : Env} {g g1 : G} {σ σ1 : L2.St} {H H1 : Hp} {γ γ1 : List Addr} {loc loc1 : Lc} {st : Stmt}

theorem setAt_ok {xs ys : List Tv.D} {k : Int} {d : Tv.D} (h : setAt xs k d = some ys) : ∃ j : Nat, ixN xs.length k = some j ∧ ys = xs.set j d := by
  unfold setAt at h
  split at h
  · rename_i hk
    cases h
    refine ⟨k.toNat, ?_, rfl⟩
    unfold ixN
    rw [if_pos hk.1, if_pos hk.2]
  · cases h
theorem sub_assign {o i : Expr} {p : Pos} (h : nice i = true) : ∀ v, assign (.Subscript o i p) X.env v = (do
      let ov ← holding [v] (eval o X.env)
      let iv ← holding [v, ov] (eval i X.env)
      standAt p
      holding [v, ov, iv] (setItem ov iv v)
      release [v, ov, iv] []) := fun _ => by cases i <;> first | rfl | cases h
theorem s_seti {i : Nat} {kx x : Ex} {t e : Expr} {p : Pos} (O : XOk S X C k W) (h : mtS C (.seti i kx x) (.Assign [t] e p) = true) : PS X (.Assign [t] e p) (tS S W (.seti i kx x)) := by
  simp only [mtS] at h
  split at h
  · rename_i o y ht
    obtain ⟨pt, rfl⟩ := dSub_eq ht
    split at h
    · rename_i n hn
      obtain ⟨py, eo⟩ := dName_eq hn
      subst eo
      simp only [Bool.and_eq_true, Bool.not_eq_true'] at h
      obtain ⟨⟨⟨⟨⟨⟨h1, h2⟩, h3⟩, h4⟩, h5⟩, h6⟩, h7⟩ := h
      have hm : i ∈ S.M := by rw [O.M]; simpa using h2
      obtain ⟨v1, v2, v3, v4⟩ := isVar_ok O h1
      have hw : swappedStores [.Subscript (.Name n py) y pt] e X.env = pure none := by
        cases e <;> first | rfl | cases h7
      refine PS.weak (ps_asg ((px k x).e S X C W O e h4) (pg_sub (pe_var v1 v2 v3 v4) ((px k kx).e S X C W O y h3) set_list (sub_assign (nice_of h3))) (by unfold swapsWithSole; exact sw_false h6) hw rfl) fun D σ H ⟨env, g, γ, loc, R, q⟩ => ?_
      simp only [evS] at q
      cases hd : gt env i with
      | none => rw [hd] at q; exact q.elim
      | some d =>
        obtain ⟨a, xs, ds, rfl, e1, e2, e3, r⟩ := R.slotM i d hm hd
        rw [hd] at q
        simp only at q
        refine st1 (Rr := fun v H1 => gSub (tVar i) (tE S W kx) rSetL v σ H1 D.nx) R q fun d1 g2 w1 H2 γ2 R2 s2 p1 q2 => ?_
        have r1 := p1.rp (isBor_fl h5)
        refine ⟨_, e2, ?_⟩
        refine st1 (Rr := fun iv H2 => rSetL (.ref a) iv w1 H2 fun H3 => D.nx σ H3) R2 q2 fun d3 g3 w3 H3 γ3 R3 s3 p3 q3 => ?_
        cases d3 with
        | int n3 =>
          have := (p3.val.op R3).int; subst this
          simp only at q3
          cases hs : setAt ds n3 d1 with
          | none => rw [hs] at q3; exact q3.elim
          | some ys =>
            rw [hs] at q3
            obtain ⟨j, hj, rfl⟩ := setAt_ok hs
            obtain ⟨a2, zs, es, ee, f1, f2, f3, r3⟩ := R3.slotM i _ hm hd
            cases ee
            rw [e1] at f1; cases f1
            refine ⟨a, zs, n3, j, rfl, rfl, f3, by rw [r3.len]; exact hj, ?_⟩
            obtain ⟨R4, s4⟩ := SR.mut R3 O.xr hm e1 hd (r3.set j (r1.mono (s3.mono (loc' := loc) R2 O.xr)))
            exact q3 σ _ γ3 loc R4 s4
        | _ => exact q3.elim
    · cases h
  · cases h
theorem s_setc {a kx x : Ex} {t e : Expr} {p : Pos} (O : XOk S X C k W) (h : mtS C (.setc a kx x) (.Assign [t] e p) = true) : PS X (.Assign [t] e p) (tS S W (.setc a kx x)) := by
  simp only [mtS] at h
  split at h
  · rename_i o y ht
    obtain ⟨pt, rfl⟩ := dSub_eq ht
    simp only [Bool.and_eq_true, Bool.not_eq_true'] at h
    obtain ⟨⟨⟨⟨⟨h2, h3⟩, h4⟩, h5⟩, h6⟩, h7⟩ := h
    have hw : swappedStores [.Subscript o y pt] e X.env = pure none := by
      cases e <;> first | rfl | cases h7
    refine PS.weak (ps_asg ((px k x).e S X C W O e h4) (pg_sub ((px k a).e S X C W O o h2) ((px k kx).e S X C W O y h3) set_list (sub_assign (nice_of h3))) (by unfold swapsWithSole; exact sw_false h6) hw rfl) fun D σ H ⟨env, g, γ, loc, R, q⟩ => ?_
    simp only [evS] at q
    refine st1 (Rr := fun v H1 => gSub (tE S W a) (tE S W kx) rSetL v σ H1 D.nx) R q fun d1 g2 w1 H2 γ2 R2 s2 p1 q2 => ?_
    refine st1 (Rr := fun ov H2 => tE S W kx σ H2 fun iv H3 => rSetL ov iv w1 H3 fun H4 => D.nx σ H4) R2 q2 fun d2 g3 w2 H3 γ3 R3 s3 p2 q3 => ?_
    refine st1 (Rr := fun iv H3 => rSetL w2 iv w1 H3 fun H4 => D.nx σ H4) R3 q3 fun d3 g4 w3 H4 γ4 R4 s4 p3 q4 => ?_
    cases d2 with
    | cell m =>
      cases d3 with
      | int n3 =>
        have := (p3.val.op R4).int; subst this
        have c2 := (p2.val.step s4 R3 O.xr).op R4
        unfold OpV Rp at c2
        obtain ⟨b, rfl, hb⟩ := c2
        simp only at q4
        cases hg : g4[m]? with
        | none => rw [hg] at q4; exact q4.elim
        | some cl =>
          cases cl with
          | ins _ _ => rw [hg] at q4; exact q4.elim
          | lst xs =>
            rw [hg] at q4
            simp only at q4
            split at q4
            · rename_i nl
              cases hs : setAt xs n3 d1 with
              | none => rw [hs] at q4; exact q4.elim
              | some ys =>
                rw [hs] at q4
                obtain ⟨j, hj, rfl⟩ := setAt_ok hs
                obtain ⟨nl2, zs, e5, r5⟩ := R4.cells m b _ hb hg
                refine ⟨b, zs, n3, j, rfl, rfl, e5, by rw [r5.len]; exact hj, ?_⟩
                have r1 := ((p1.rp (isBor_fl h5)).mono (s3.mono (loc' := loc) R2 O.xr)).mono (s4.mono (loc' := loc) R3 O.xr)
                have nl3 : nolistL (xs.set j d1) = true := by
                  clear e5 r5 q4 hs hg hj
                  revert nl2
                  induction xs generalizing j with
                  | nil => intro _; rfl
                  | cons z zs ih =>
                    intro h
                    have h' : nolist z = true ∧ nolistL zs = true := by simpa [nolistL] using h
                    cases j with
                    | zero => simp [nolistL, nl, h'.2]
                    | succ j => simp [nolistL, h'.1, ih j h'.2]
                obtain ⟨R5, s5⟩ := SR.cellset R4 O.xr hb hg nl3 (r5.set j (r1.nol _ _ nl))
                exact q4 σ _ γ4 loc R5 s5.toStep
            · exact q4.elim
      | _ => exact q4.elim
    | _ => exact q4.elim
  · cases h
theorem nolistL_app : ∀ {xs : List Tv.D} {d : Tv.D}, nolistL xs = true → nolist d = true → nolistL (xs ++ [d]) = true
  | [], d, _, h => by simp [nolistL, h]
  | x :: r, d, h, h2 => by
    have h' : nolist x = true ∧ nolistL r = true := by simpa [nolistL] using h
    simp [nolistL, h'.1, nolistL_app h'.2 h2]
theorem s_appc {a x : Ex} {e : Expr} {p : Pos} (O : XOk S X C k W) (h : mtS C (.appc a x) (.Expr e p) = true) : PS X (.Expr e p) (tS S W (.appc a x)) := by
  simp only [mtS] at h
  split at h
  · rename_i o m y hx
    obtain ⟨pa, pc, rfl, hl⟩ := dMeth_eq hx
    simp only [Bool.and_eq_true, Bool.not_eq_true'] at h
    obtain ⟨⟨⟨⟨h1, h2⟩, h3⟩, h4⟩, h5⟩ := h
    have em : m = "append" := by simpa using h2
    subst em
    have ny := nice_of h3
    refine PS.weak (ps_expr (pe_bm PySem.F.plainAttrs_list PySem.F.slot_list_append PySem.F.type_list_append mt_append ((px k a).e S X C W O _ h1) (pa_cons ((px k x).e S X C W O _ h3) pa_nil (star_eq ny _ _)) (recv_eq h5 _ _) (by rw [star_eq ny]; rfl) hl (star_eq ny _ _) rfl) (sw_false rfl)) fun D σ H ⟨env, g, γ, loc, R, q⟩ => ?_
    simp only [evS] at q
    refine st1 (Rr := fun v H1 => tyV X.K "list" v H1 ∧ tE S W x σ H1 fun y H2 => rAppend v [y] H2 fun _ H3 => D.nx σ H3) R q fun d1 g2 w1 H2 γ2 R2 s2 p1 q2 => ?_
    cases d1 with
    | cell m =>
      simp only at q2
      have c2 := p1.val.op R2
      unfold OpV Rp at c2
      obtain ⟨b, rfl, hb⟩ := c2
      cases hg : g2[m]? with
      | none => rw [hg] at q2; exact q2.elim
      | some cl =>
        cases cl with
        | ins _ _ => rw [hg] at q2; exact q2.elim
        | lst xs =>
          rw [hg] at q2
          simp only at q2
          obtain ⟨nl2, zs, e5, r5⟩ := R2.cells m b _ hb hg
          refine ⟨.inl ⟨rfl, _, SqL.of e5⟩, ?_⟩
          refine st1 (Rr := fun y H2 => rAppend (.ref b) [y] H2 fun _ H3 => D.nx σ H3) R2 q2 fun d3 g3 w3 H3 γ3 R3 s3 p3 q3 => ?_
          cases hg3 : g3[m]? with
          | none => rw [hg3] at q3; exact q3.elim
          | some cl =>
            cases cl with
            | ins _ _ => rw [hg3] at q3; exact q3.elim
            | lst xs =>
              rw [hg3] at q3
              simp only at q3
              split at q3
              · rename_i hc
                simp only [Bool.and_eq_true, decide_eq_true_eq] at hc
                obtain ⟨nl3, zs, e6, r6⟩ := R3.cells m b _ (pre_get s3.grow hb) hg3
                refine ⟨b, zs, w3, rfl, rfl, e6, ?_, ?_⟩
                · rw [r6.len]; exact Nat.lt_of_lt_of_le hc.2 (by decide)
                · obtain ⟨R4, s4'⟩ := SR.cellset R3 O.xr (pre_get s3.grow hb) hg3 (nolistL_app nl3 hc.1) (r6.append (.cons ((p3.rp (isBor_fl h4)).nol _ _ hc.1) .nil))
                  exact q3 σ _ γ3 loc R4 s4'.toStep
              · exact q3.elim
    | _ => exact q2.elim
  · cases h
/-- list.remove: ints, texts -/
def eqS (k : Str) (v : Value) : Bool := match v with
  | .str n _ => decide (n = k)
  | _ => false
theorem eqS_gives {k : Str} {t : Tok} : ∀ {us : List Value} {ns : List Str}, StrsAre us ns → ∀ y ∈ us, MeetsSeq.EqGives y (.str k t) (eqS k y)
  | _, _, .nil => fun y hy => by cases hy
  | _, _, .cons n t' h => fun y hy => by
    rcases List.mem_cons.mp hy with e | e
    · rw [e]
      exact fun _ _ _ _ _ _ h => wpAny_eqBool_str h
    · exact eqS_gives h y e
theorem erase_mapS : ∀ (l : List Str) (j : Nat), (l.map V.str).eraseIdx j = (l.eraseIdx j).map V.str
  | [], j => by simp
  | a :: r, 0 => by simp
  | a :: r, j + 1 => by simp [erase_mapS r j]
theorem strs_of_vals : ∀ {ns : List Str} {us : List Value}, Vals (ns.map V.str) us → StrsAre us ns
  | [], _, .nil => .nil
  | n :: ns, _, .cons r t => by
    obtain ⟨k, rfl⟩ := r
    exact .cons n k (strs_of_vals t)
theorem strs_get : ∀ {us : List Value} {ns : List Str}, StrsAre us ns → ∀ (j : Nat) (k : Str), ns[j]? = some k → ∃ t, us[j]? = some (.str k t)
  | _, _, .nil, j, k, h => by simp at h
  | _, _, .cons n t r, 0, k, h => by simp at h; subst h; exact ⟨t, rfl⟩
  | _, _, .cons n t r, j + 1, k, h => by
    obtain ⟨t', e⟩ := strs_get r j k (by simpa using h)
    exact ⟨t', by simpa using e⟩
def rRemS : V → List V → Hp → VK → Prop := fun x xs H Q => ∃ (l : Addr) (ns : List Str) (k : Str) (j : Nat), x = .ref l ∧ xs = [.str k] ∧ H l = some (.lst (ns.map V.str)) ∧ ns[j]? = some k ∧ (∀ m : Nat, m < j → ns[m]? ≠ some k) ∧ Q .non (upd H l (.lst ((ns.eraseIdx j).map V.str)))
theorem mt_removeS : MtM X "list.remove" rRemS := by
  intro pins s σ H x xs v us Q I rx rxs h
  obtain ⟨l, ns, k, j, rfl, rfl, hH, hj, hno, q⟩ := h
  cases rx
  obtain ⟨u, rfl, ru⟩ := rxs.one
  obtain ⟨t, rfl⟩ := ru
  obtain ⟨z, its, n, r, hl, e⟩ := I.lstM hH
  have hi := strs_of_vals r
  rw [List.length_map] at hl z
  have jn : j < ns.length := (List.getElem?_eq_some_iff.mp hj).1
  have jl : j < its.toArray.size := by rw [List.size_toArray]; omega
  have sz : its.toArray.size ≤ sizeLine := by rw [List.size_toArray]; omega
  have hit : eqS k its.toArray[j] = true := by
    obtain ⟨tj, hjt⟩ := strs_get hi j k hj
    obtain ⟨h1, h2⟩ := List.getElem?_eq_some_iff.mp hjt
    have e1 : its.toArray[j] = .str k tj := by simpa using h2
    rw [e1]
    exact decide_eq_true rfl
  have hnone : ∀ m (hm : m < its.toArray.size), m < j → eqS k its.toArray[m] = false := by
    intro m hm hmj
    have hmn : m < ns.length := by omega
    obtain ⟨tm, hmt⟩ := strs_get hi m _ (List.getElem?_eq_getElem hmn)
    obtain ⟨h1, h2⟩ := List.getElem?_eq_some_iff.mp hmt
    have e1 : its.toArray[m] = .str ns[m] tm := by simpa using h2
    rw [e1]
    refine decide_eq_false fun e2 => hno m hmj ?_
    rw [List.getElem?_eq_getElem hmn, e2]
  refine call_meets PySem.F.slot_list_remove ⟨_, e, rfl⟩ PySem.F.entry_list_remove (PySem.F.args_list_remove_2 _ _) (MeetsSeq.list_remove l its.toArray n (.str k t) (eqS k) (fun y hy => eqS_gives hi y (by simpa using hy)) j jl hit hnone sz) ⟨e, ?_⟩
  have rr := r.eraseIdx j
  rw [erase_mapS] at rr
  refine ⟨.non, _, I.lset (its' := its.eraseIdx j) (t' := s.toks) hH e ?_ rr ?_, rfl, q⟩
  · show its.toArray.eraseIdxIfInBounds j = (its.eraseIdx j).toArray
    rw [List.eraseIdxIfInBounds_toArray]
  · rw [List.length_map]
    exact Nat.le_trans (List.length_eraseIdx_le _ _) z
def rRem : V → List V → Hp → VK → Prop := fun x xs H Q => rRemI x xs H Q ∨ rRemS x xs H Q
theorem mt_rem : MtM X "list.remove" rRem := by
  intro pins s σ H x xs v us Q I rx rxs h
  rcases h with h | h
  · exact mt_remove pins s σ H x xs v us Q I rx rxs h
  · exact mt_removeS pins s σ H x xs v us Q I rx rxs h
theorem ints_of_all : ∀ {xs : List Tv.D}, xs.all isInt = true → ∃ ns : List Int, xs = ns.map .int
  | [], _ => ⟨[], rfl⟩
  | x :: r, h => by
    have h' : isInt x = true ∧ r.all isInt = true := by simpa using h
    obtain ⟨ns, rfl⟩ := ints_of_all h'.2
    cases x with
    | int i => exact ⟨i :: ns, rfl⟩
    | _ => cases h'.1
theorem strs_of_all : ∀ {xs : List Tv.D}, xs.all isStr = true → ∃ ns : List Str, xs = ns.map .str
  | [], _ => ⟨[], rfl⟩
  | x :: r, h => by
    have h' : isStr x = true ∧ r.all isStr = true := by simpa using h
    obtain ⟨ns, rfl⟩ := strs_of_all h'.2
    cases x with
    | str i => exact ⟨i :: ns, rfl⟩
    | _ => cases h'.1
theorem RpL.ints_eq {K : PySem.W.Frag} {XR : Nat → Addr → Hp → Prop} {F : Addr → Prop} : ∀ {ns : List Int} {xs : List V}, RpL K XR F γ H (ns.map .int) xs → xs = ns.map V.int
  | [], _, h => by unfold RpL at h; exact h
  | n :: r, xs, h => by
    simp only [List.map_cons] at h
    unfold RpL at h
    obtain ⟨v, ys, rfl, h1, h2⟩ := h
    unfold Rp at h1
    rw [h1, RpL.ints_eq h2]; rfl
theorem RpL.strs_eq {K : PySem.W.Frag} {XR : Nat → Addr → Hp → Prop} {F : Addr → Prop} : ∀ {ns : List Str} {xs : List V}, RpL K XR F γ H (ns.map .str) xs → xs = ns.map V.str
  | [], _, h => by unfold RpL at h; exact h
  | n :: r, xs, h => by
    simp only [List.map_cons] at h
    unfold RpL at h
    obtain ⟨v, ys, rfl, h1, h2⟩ := h
    unfold Rp at h1
    rw [h1, RpL.strs_eq h2]; rfl
theorem s_rmv {i : Nat} {x : Ex} {e : Expr} {p : Pos} (O : XOk S X C k W) (h : mtS C (.rmv i x) (.Expr e p) = true) : PS X (.Expr e p) (tS S W (.rmv i x)) := by
  simp only [mtS] at h
  split at h
  · rename_i o m y hx
    obtain ⟨pa, pc, rfl, hl⟩ := dMeth_eq hx
    split at h
    · rename_i n hn
      obtain ⟨py, eo⟩ := dName_eq hn
      subst eo
      simp only [Bool.and_eq_true, Bool.not_eq_true'] at h
      obtain ⟨⟨⟨h1, h2⟩, h3⟩, h4⟩ := h
      have em : m = "remove" := by simpa using h3
      subst em
      have hm : i ∈ S.M := by rw [O.M]; simpa using h2
      obtain ⟨v1, v2, v3, v4⟩ := isVar_ok O h1
      have ny := nice_of h4
      refine PS.weak (ps_expr (pe_bm PySem.F.plainAttrs_list PySem.F.slot_list_remove PySem.F.type_list_remove mt_rem (pe_var v1 v2 v3 v4) (pa_cons ((px k x).e S X C W O _ h4) pa_nil (star_eq ny _ _)) rfl (by rw [star_eq ny]; rfl) hl (star_eq ny _ _) rfl) (sw_false rfl)) fun D σ H ⟨env, g, γ, loc, R, q⟩ => ?_
      simp only [evS] at q
      cases hd : gt env i with
      | none => rw [hd] at q; exact q.elim
      | some d =>
        obtain ⟨a, xs, ds, rfl, e1, e2, e3, r⟩ := R.slotM i d hm hd
        rw [hd] at q
        refine ⟨_, e2, .inl ⟨rfl, _, SqL.of e3⟩, ?_⟩
        refine st1 (Rr := fun v H1 => rRem (.ref a) [v] H1 fun _ H' => D.nx σ H') R q fun d1 g2 w1 H2 γ2 R2 s2 p1 q2 => ?_
        cases hr : rmvD ds d1 with
        | none => rw [hr] at q2; exact q2.elim
        | some ys =>
          rw [hr] at q2
          unfold rmvD at hr
          split at hr
          · rename_i hk
            simp only [Option.map_eq_some_iff] at hr
            obtain ⟨j, hj, rfl⟩ := hr
            obtain ⟨⟨z, f4, f5⟩, f6⟩ := idx_some hj
            obtain ⟨a2, zs, es, ee, f1, f2, f3, r2⟩ := R2.slotM i _ hm hd
            cases ee
            rw [e1] at f1; cases f1
            obtain ⟨R3, s3⟩ := SR.mut R2 O.xr hm e1 hd (r2.eraseIdx j)
            rcases Bool.or_eq_true_iff.mp hk with hk | hk
            · obtain ⟨k1, k2⟩ := Bool.and_eq_true_iff.mp hk
              obtain ⟨ns, rfl⟩ := ints_of_all k2
              cases d1 with
              | int b =>
                have := (p1.val.op R2).int; subst this
                have ez := RpL.ints_eq r2
                subst ez
                refine .inl ⟨a, ns, b, j, rfl, rfl, f3, ?_, fun m hm2 => ?_, ?_⟩
                · rw [List.getElem?_map] at f4
                  simp only [Option.map_eq_some_iff] at f4
                  obtain ⟨c, f7, rfl⟩ := f4
                  have : c = b := by simpa [eqD] using f5
                  rw [f7, this]
                · intro f7
                  have := f6 m (.int b) hm2 (by rw [List.getElem?_map, f7]; rfl)
                  simp [eqD] at this
                · have := q2 σ _ γ2 loc R3 s3
                  rw [erase_mapI] at this
                  exact this
              | _ => cases k1
            · obtain ⟨k1, k2⟩ := Bool.and_eq_true_iff.mp hk
              obtain ⟨ns, rfl⟩ := strs_of_all k2
              cases d1 with
              | str b =>
                have := (p1.val.op R2).str; subst this
                have ez := RpL.strs_eq r2
                subst ez
                refine .inr ⟨a, ns, b, j, rfl, rfl, f3, ?_, fun m hm2 => ?_, ?_⟩
                · rw [List.getElem?_map] at f4
                  simp only [Option.map_eq_some_iff] at f4
                  obtain ⟨c, f7, rfl⟩ := f4
                  have : c = b := by simpa [eqD] using f5
                  rw [f7, this]
                · intro f7
                  have := f6 m (.str b) hm2 (by rw [List.getElem?_map, f7]; rfl)
                  simp [eqD] at this
                · have := q2 σ _ γ2 loc R3 s3
                  rw [erase_mapS] at this
                  exact this
              | _ => cases k1
          · cases hr
    · cases h
  · cases h
end
end Tv

set_option Elab.async false
set_option linter.all false
set_option maxRecDepth 100000
/-! Soundness of statements: branches, loops, blocks. -/
namespace Tv
open PySem PySem.Spec PyProof.Rows L2

/-- a class of exceptions at hand -/
structure ClsOk (K : PySem.W.Frag) (mg : Str → Option Value) (cv : Nat → Value) (c : Nat) (f : Str) : Prop where
  ex : ∃ (a : Addr) (bm : List Value) (B newId initId : String), ExcBaseFacts B newId initId bm ∧ PySem.W.excIn K a bm newId = true ∧ mg f = some (.ref a) ∧ PySem.W.keepIn K (.ref a) = true ∧
    PySem.W.subIn K (.ref a) (.type "BaseException") = some true ∧ PySem.W.typeIn K (.ref a) = some (.type "type") ∧ cv c = .ref a
/-- the place of a def's body -/
structure XSt (S : Se) (X : Cx) (C : Ct) (k : Nat) (W : WX) : Prop extends XOk S X C k W where
  kind : X.env.scope.kind = .function
  own : PassesOwn (model X.prog X.w) X.A X.env X.xe
  rs : ∀ c f, C.cls[c]? = some f → f ≠ ("" : Str) → ClsOk X.K X.mg S.cv c f
  hs : X.stack = X.env :: X.outer
  hf : X.env.frame = some X.env.locals
  hx : X.ex = []

theorem Mono.trans {XR : Nat → Addr → Hp → Prop} {F F' F2 : Addr → Prop} {γ γ' γ2 : List Addr} {H H' H2 : Hp} (a : Mono XR F γ H F' γ' H') (b : Mono XR F' γ' H' F2 γ2 H2) : Mono XR F γ H F2 γ2 H2 :=
  ⟨fun c xs e f => (b.ls c xs (a.ls c xs e f).1 (a.ls c xs e f).2), fun c o ho e => b.nl c o ho (a.nl c o ho e), a.gm.trans b.gm, fun c d h => b.xr c d (a.xr c d h)⟩
section
variable {S : Se} {X : Cx} {C : Ct} {k : Nat} {W : WX} {De : Ends} {env env1 : Env} {g g1 : G} {σ σ1 : L2.St} {H H' H1 : Hp} {γ γ' γ1 : List Addr} {loc loc' loc1 : Lc} {st : Stmt}

theorem Step.mono (s : Step γ loc H γ' loc' H') (R : S.R env g σ H γ loc) (hx : XRok S.XR) : Mono S.XR (Fp γ loc S.ext) γ H (Fp γ' loc' S.ext) γ' H' where
  ls := fun a xs e f => by
    have ha : a ∉ γ := fun z => f (.inl z)
    refine ⟨s.keep a _ ha (fun i z => f (.inr (.inl ⟨i, z⟩))) e, fun z => f ?_⟩
    rcases z with z | ⟨j, z⟩ | z
    · rcases s.newg a z with q | q
      · exact .inl q
      · rw [e] at q; cases q
    · rcases s.newl j a z with q | q
      · exact .inr (.inl q)
      · rw [e] at q; cases q
    · exact .inr (.inr z)
  nl := fun a o ho e => s.keep a _ (fun z => by obtain ⟨ys, q⟩ := R.cell z; rw [e] at q; cases q; exact ho _ rfl) (fun i z => by obtain ⟨ys, q⟩ := R.own z; rw [e] at q; cases q; exact ho _ rfl) e
  gm := s.grow
  xr := fun c a h => hx c a H h H' fun b hb o e => s.keep b o (fun z => by obtain ⟨ys, q⟩ := R.cell z; exact hb ys q) (fun i z => by obtain ⟨ys, q⟩ := R.own z; exact hb ys q) e

theorem s_exp {x : Ex} {e : Expr} {p : Pos} (O : XOk S X C k W) (h : mtS C (.exp x) (.Expr e p) = true) : PS X (.Expr e p) (tS S W (.exp x)) := by
  have h' : mtE C x e = true ∧ isLC e = false := by simpa [mtS] using h
  refine PS.weak (ps_expr ((px k x).e S X C W O e h'.1) (sw_false h'.2)) fun D σ H ⟨env, g, γ, loc, R, q⟩ => ?_
  simp only [evS] at q
  exact st1 R q fun d1 g2 v1 H2 γ2 R2 s2 p1 q2 => q2 σ H2 γ2 loc R2 .refl
theorem dCst_str {e : Expr} {s : Str} (h : dCst e = some (.str s)) : ∃ j p, e = .Constant (.str s) j p := by
  unfold dCst at h
  split at h <;> first | (cases h; done) | skip
  cases h
  exact ⟨_, _, rfl⟩
theorem s_raise {c : Nat} {e : Expr} {p : Pos} (O : XSt S X C k W) (h : mtS C (.raise c) (.Raise (some e) none p) = true) : PS X (.Raise (some e) none p) (tS S W (.raise c)) := by
  simp only [mtS] at h
  split at h
  · rename_i f m hx
    obtain ⟨p1, p2, rfl⟩ := dCall_eq hx
    simp only [Bool.and_eq_true, decide_eq_true_eq] at h
    obtain ⟨⟨⟨h1, h2⟩, h4⟩, h3⟩ := h
    cases hc : dCst m with
    | none => rw [hc] at h3; cases h3
    | some d =>
      rw [hc] at h3
      cases d with
      | str s =>
        obtain ⟨j, p3, rfl⟩ := dCst_str hc
        obtain ⟨a, bm, B, newId, initId, e1, e2, e3, e4, e5, e6, e7⟩ := (O.rs c f h1 (by simpa using h4)).ex
        obtain ⟨g1, g2, g3⟩ := isGl_ok O.toXOk h2
        have hp := ps_raise (pos := p) O.calm O.tk (pmk_own (m := s) (j := j) (p := p1) (p2 := p3) (pos := p2) e1 e2 e3 e4 (raises_own e5 e6) g1 g2)
        refine PS.weak hp fun D σ H ⟨env, g, γ, loc, R, q⟩ => ?_
        rw [← e7]
        exact q σ H γ loc R .refl
      | _ => cases h3
  · cases h
theorem s_if {c : Ex} {s r : St} {e : Expr} {a b : List Stmt} {p : Pos} (O : XSt S X C k W) (ha : ∀ l, mtSs C s l = true → PSs X l (tS S W s)) (hb : ∀ l, mtSs C r l = true → PSs X l (tS S W r)) (h : mtS C (.ife c s r) (.If e a b p) = true) :
    PS X (.If e a b p) (tS S W (.ife c s r)) := by
  have h' : ((mtE C c e = true ∧ isIte c = false) ∧ mtSs C s a = true) ∧ mtSs C r b = true := by simpa [mtS] using h
  obtain ⟨⟨⟨h1, h2⟩, h3⟩, h4⟩ := h'
  refine PS.weak (ps_if ((px k c).t S X C W O.toXOk e h1 h2) (ha a h3) (hb b h4)) fun D σ H ⟨env, g, γ, loc, R, q⟩ => ?_
  simp only [evS] at q
  refine ⟨env, g, γ, loc, R, (out_sat (σ := σ) q).mono (fun d g1 q1 => ?_) fun _ _ x => x⟩
  cases d with
  | bl b =>
    refine ⟨b, rfl, fun H1 γ1 R1 s1 => ?_⟩
    cases b with
    | true => exact ⟨env, g1, γ1, loc, R1, OutOk.after R s1.toStep q1⟩
    | false => exact ⟨env, g1, γ1, loc, R1, OutOk.after R s1.toStep q1⟩
  | _ => exact q1.elim
/-- where a loop's turn ends -/
theorem out_turn {o : Out} {N : L2.St → Hp → Prop} {f : Env → G → Out} (h : OutOk S W De γ loc H (match o with
      | .nx e g => f e g
      | .cnt e g => f e g
      | .brk e g => .nx e g
      | o => o)) (hN : ∀ e g σ' H' γ' loc', S.R e g σ' H' γ' loc' → Step γ loc H γ' loc' H' → OutOk S W De γ' loc' H' (f e g) → N σ' H')
    (R : S.R env g σ H γ loc) : OutOk S W { De with nx := N, ct := N, bk := De.nx } γ loc H o := by
  cases o with
  | nx e g' => exact fun σ' H' γ' loc' R' s' => hN e g' σ' H' γ' loc' R' s' (OutOk.after R s' h)
  | cnt e g' => exact fun σ' H' γ' loc' R' s' => hN e g' σ' H' γ' loc' R' s' (OutOk.after R s' h)
  | brk e g' => exact h
  | ret d g' => exact h
  | err c e g' => exact h
  | stuck => exact h
theorem s_whl {n : Nat} {c : Ex} {s : St} {e : Expr} {a : List Stmt} {p : Pos} (O : XSt S X C k W) (ha : ∀ l, mtSs C s l = true → PSs X l (tS S W s)) (h : mtS C (.whl n c s) (.While e a [] p) = true) :
    PS X (.While e a [] p) (tS S W (.whl n c s)) := by
  have h' : (mtE C c e = true ∧ isIte c = false) ∧ mtSs C s a = true := by simpa [mtS] using h
  obtain ⟨⟨h1, h2⟩, h3⟩ := h'
  refine PS.weak (ps_while O.own ((px k c).t S X C W O.toXOk e h1 h2) (ha a h3)) fun D σ H ⟨env, g, γ, loc, R, q⟩ => ?_
  simp only [evS] at q
  refine ⟨fun m σ1 H1 => ∃ env1 g1 γ1 loc1, S.R env1 g1 σ1 H1 γ1 loc1 ∧ OutOk S W D γ1 loc1 H1 (whlGo (evE S.T c) (evS S.T s) m env1 g1), ⟨n, env, g, γ, loc, R, q⟩, ?_⟩
  clear q R
  rintro m σ1 H1 ⟨env1, g1, γ1, loc1, R1, q1⟩
  cases m with
  | zero => exact q1.elim
  | succ m =>
    simp only [whlGo] at q1
    refine ⟨env1, g1, γ1, loc1, R1, (out_sat (σ := σ1) q1).mono (fun d g2 q2 => ?_) fun _ _ x => x⟩
    cases d with
    | bl b =>
      refine ⟨b, rfl, fun H2 γ2 R2 s2 => ?_⟩
      cases b with
      | true =>
        rw [if_pos rfl]
        refine ⟨fun σ3 H3 => ∃ env3 g3 γ3 loc3, S.R env3 g3 σ3 H3 γ3 loc3 ∧ OutOk S W D γ3 loc3 H3 (whlGo (evE S.T c) (evS S.T s) m env3 g3), fun σ' H' hn => ⟨m, Nat.lt_succ_self m, hn⟩, ?_⟩
        have q3 := OutOk.after R1 s2.toStep q2
        exact ⟨env1, g2, γ2, loc1, R2, out_turn q3 (fun e g σ' H' γ' loc' R' _ q' => ⟨e, g, γ', loc', R', q'⟩) R2⟩
      | false =>
        rw [if_neg (by simp)]
        exact OutOk.after R1 s2.toStep q2 σ1 H2 γ2 loc1 R2 .refl
    | _ => exact q2.elim
theorem borI_eq : ∀ x, borI' x = borI x := fun x => by cases x <;> rfl
theorem tgShape {C : Ct} {tx : Tg} {t : Expr} (h : mtTg C tx t = true) : isTup tx = true → ∃ elts kk tpos, t = .Tuple elts kk tpos := by
  intro hk
  cases tx with
  | one i => cases hk
  | tup is =>
    simp only [mtTg] at h
    split at h
    · rename_i es he
      obtain ⟨kk, p, rfl⟩ := dTup_eq he
      exact ⟨_, _, _, rfl⟩
    · cases h
theorem nice_it {C : Ct} {tg : Tg} {x : Ex} {e : Expr} (h : mtI C tg x e = true) : nice e = true := by
  cases hn : nice e with
  | true => rfl
  | false =>
    obtain ⟨h1, h2, h3, h4, h5, h6, h7, h8, h9, h10, h11, h12, h13⟩ := bad_d hn
    cases x <;> first | (simp [mtI, h11] at h; done) | skip
    all_goals
      have := nice_of (C := C) (by simpa [mtI] using h)
      rw [this] at hn; cases hn
theorem s_for {tg : Tg} {it : Ex} {s : St} {t e : Expr} {a : List Stmt} {p : Pos} (O : XSt S X C k W) (ha : ∀ l, mtSs C s l = true → PSs X l (tS S W s)) (h : mtS C (.forr tg it s) (.For t e a [] p) = true) :
    PS X (.For t e a [] p) (tS S W (.forr tg it s)) := by
  have h' : ((mtI C tg it e = true ∧ borI' it = false) ∧ mtTg C tg t = true) ∧ mtSs C s a = true := by simpa [mtS] using h
  obtain ⟨⟨⟨h1, h2⟩, h3⟩, h4⟩ := h'
  refine PS.weak (ps_for O.own O.calm ((px k it).i S X C W O.toXOk tg t e (tgShape h3) h1) (pg_ok O.toXOk h3) (ha a h4) (fold_eq (nice_it h1) _)) fun D σ H ⟨env, g, γ, loc, R, q⟩ => ?_
  simp only [evS] at q
  refine ⟨env, g, γ, loc, R, (out_sat (σ := σ) q).mono (fun ds g1 q1 J H1 γ1 R1 s1 goes => ?_) fun _ _ x => x⟩
  rw [← borI_eq, h2] at goes
  have q1 := OutOk.after R s1.toStep q1
  refine ⟨fun i m σ2 H2 => m = ds.length - i ∧ i ≤ ds.length ∧ ∃ env2 g2 γ2 loc2, S.R env2 g2 σ2 H2 γ2 loc2 ∧ Mono S.XR (Fp γ1 loc S.ext) γ1 H1 (Fp γ2 loc2 S.ext) γ2 H2 ∧ OutOk S W D γ2 loc2 H2 (forGo (fun d e g => match setTg tg d e with
    | some e => evS S.T s e g
    | none => .stuck) (ds.drop i) env2 g2), ⟨_, rfl, Nat.zero_le _, env, g1, γ1, loc, R1, fp_sub fun _ z => z, by rw [List.drop_zero]; exact q1⟩, ?_⟩
  rintro i m σ2 H2 ⟨rfl, hil, env2, g2, γ2, loc2, R2, m2, q2⟩
  by_cases hlt : i < ds.length
  · refine .inr ?_
    have hd : ds[i]? = some ds[i] := List.getElem?_eq_getElem hlt
    obtain ⟨go, yl⟩ := goes.go H2 γ2 _ m2 (fun z => by cases z) i _ hd
    refine ⟨go, fun σ3 H3 => ∃ env3 g3 γ3 loc3, S.R env3 g3 σ3 H3 γ3 loc3 ∧ Mono S.XR (Fp γ1 loc S.ext) γ1 H1 (Fp γ3 loc3 S.ext) γ3 H3 ∧ OutOk S W D γ3 loc3 H3 (forGo (fun d e g => match setTg tg d e with
    | some e => evS S.T s e g
    | none => .stuck) (ds.drop (i + 1)) env3 g3), fun σ' H' hn => ⟨ds.length - (i + 1), by omega, rfl, hlt, hn⟩, fun x H3 hy => ?_⟩
    have y := yl x H3 hy
    rw [List.drop_eq_getElem_cons hlt] at q2
    simp only [forGo] at q2
    cases he : setTg tg ds[i] env2 with
    | none => rw [he] at q2; exact q2.elim
    | some e1 =>
      rw [he] at q2
      simp only at q2
      rw [← O.K]
      refine tg_ok (own := []) (C := C) O.M O.xr he h3 R2 y fun σ3 R3 n3 _ => ?_
      refine ⟨e1, g2, γ2, loc2, R3, ?_⟩
      have q3 := OutOk.after R2 n3.step q2
      refine out_turn q3 (fun e g σ' H' γ' loc' R' s' q' => ⟨e, g, γ', loc', R', (m2.trans (n3.mono O.xr R2)).trans (s'.mono R3 O.xr), q'⟩) R3
  · have hie : i = ds.length := by omega
    subst hie
    refine .inl ⟨goes.stop H2 γ2 _ m2 (fun z => by cases z) _ (Nat.le_refl _), ?_⟩
    rw [List.drop_length] at q2
    exact q2 σ2 H2 γ2 loc2 R2 .refl
theorem s_nil : PSs X [] (tS S W .nil) := PSs.weak pss_nil fun D σ H ⟨env, g, γ, loc, R, q⟩ => q σ H γ loc R .refl
theorem s_cons {s r : St} {x : Stmt} {xs : List Stmt} (h1 : PS X x (tS S W s)) (h2 : PSs X xs (tS S W r)) : PSs X (x :: xs) (tS S W (.cons s r)) := by
  refine PSs.weak (pss_cons h1 h2) fun D σ H ⟨env, g, γ, loc, R, q⟩ => ⟨env, g, γ, loc, R, ?_⟩
  simp only [evS] at q
  revert q
  cases evS S.T s env g with
  | nx e g' => exact fun q σ' H' γ' loc' R' s' => ⟨e, g', γ', loc', R', OutOk.after R s' q⟩
  | cnt e g' => exact fun q => q
  | brk e g' => exact fun q => q
  | ret d g' => exact fun q => q
  | err c e g' => exact fun q => q
  | stuck => exact fun q => q
end
end Tv

set_option Elab.async false
set_option linter.all false
set_option maxRecDepth 100000
/-! Soundness of statements: parallel stores; all of them. -/
namespace Tv
open PySem PySem.Spec PyProof.Rows L2

section
variable {S : Se} {X : Cx} {C : Ct} {k : Nat} {W : WX} {De : Ends} {env env1 : Env} {g g1 : G} {σ σ1 : L2.St} {H H' H1 : Hp} {γ γ' γ1 : List Addr} {loc loc' loc1 : Lc} {st : Stmt}

def swN (env : PySem.Env) (ts : List Expr) (line : Nat) : List Str := ts.filterMap fun
    | .Name id pos => if env.kindOf id == some .local && pos.line == line then some id else none
    | _ => none
theorem swN_eq (O : XSt S X C k W) (ts : List Expr) (line : Nat) : swN X.env ts line = swNames C ts line := by
  unfold swN swNames
  congr 1
  funext t
  cases t <;> first | rfl | skip
  unfold PySem.Env.kindOf
  rw [← O.sc]
def isStar : Expr → Bool := fun | .Starred .. => true | _ => false
theorem sw_stores (O : XSt S X C k W) {ts vs : List Expr} {kt k2 : _} {pt p2 : Pos} {b : Bool} (h : swK C ts vs = some b) :
    swappedStores [.Tuple ts kt pt] (.Tuple vs k2 p2) X.env = pure (if b = true then some (swNames C ts ((ts.head?.map (·.pos.line)).getD 0)) else none) ∧ (b = true → (ts.length = 2 ∨ ts.length = 3) ∧ vs.length = ts.length ∧ (swNames C ts ((ts.head?.map (·.pos.line)).getD 0)).length = ts.length) := by
  have hb : (X.env.blockKind != .function) = false := by
    have : X.env.blockKind = .function := by unfold Env.blockKind; rw [O.kind]; rfl
    rw [this]; rfl
  have hn := swN_eq O ts ((ts.head?.map (·.pos.line)).getD 0)
  have e0 : swappedStores [.Tuple ts kt pt] (.Tuple vs k2 p2) X.env =
      (if (!(ts.length == 2 || ts.length == 3) || vs.length != ts.length || X.env.blockKind != .function) = true then pure none
      else if vs.any isStar = true then pure none
      else if ((swN X.env ts ((ts.head?.map (·.pos.line)).getD 0)).length != ts.length || (swN X.env ts ((ts.head?.map (·.pos.line)).getD 0)).eraseDups.length != (swN X.env ts ((ts.head?.map (·.pos.line)).getD 0)).length) = true then pure none
      else if vs.all (foldedForSure 8) = true then pure none
      else if vs.all (constantsAlone 8) = true then unsupported "assign.tuple-of-constant-expressions:order-of-the-stores"
      else pure (some (swN X.env ts ((ts.head?.map (·.pos.line)).getD 0)))) := by
    unfold swappedStores
    rfl
  have e1 : swK C ts vs =
      (if (!(ts.length == 2 || ts.length == 3) || vs.length != ts.length) = true then some false
      else if vs.any isStar = true then some false
      else if ((swNames C ts ((ts.head?.map (·.pos.line)).getD 0)).length != ts.length || (swNames C ts ((ts.head?.map (·.pos.line)).getD 0)).eraseDups.length != (swNames C ts ((ts.head?.map (·.pos.line)).getD 0)).length) = true then some false
      else if vs.all (foldedForSure 8) = true then some false
      else if vs.all (constantsAlone 8) = true then none
      else some true) := rfl
  rw [e1] at h
  rw [e0, hn, hb, Bool.or_false]
  generalize swNames C ts ((ts.head?.map (·.pos.line)).getD 0) = ns at *
  split at h
  · rename_i c
    cases h
    exact ⟨by rw [if_pos c]; rfl, fun z => by cases z⟩
  rename_i c1
  rw [if_neg c1]
  split at h
  · rename_i c
    cases h
    exact ⟨by rw [if_pos c]; rfl, fun z => by cases z⟩
  rename_i c2
  rw [if_neg c2]
  split at h
  · rename_i c
    cases h
    exact ⟨by rw [if_pos c]; rfl, fun z => by cases z⟩
  rename_i c3
  rw [if_neg c3]
  split at h
  · rename_i c
    cases h
    exact ⟨by rw [if_pos c]; rfl, fun z => by cases z⟩
  rename_i c4
  rw [if_neg c4]
  split at h
  · cases h
  rename_i c5
  rw [if_neg c5]
  cases h
  refine ⟨rfl, fun _ => ?_⟩
  simp only [Bool.or_eq_true, Bool.not_eq_true', Bool.or_eq_false_iff, bne_iff_ne, ne_eq, beq_eq_false_iff_ne, not_or, not_and, Decidable.not_not] at c1 c3
  refine ⟨?_, c1.2, c3.1⟩
  have := c1.1
  omega
theorem names_all {C : Ct} {line : Nat} : ∀ {ts : List Expr}, (swNames C ts line).length = ts.length → ∀ t ∈ ts, ∃ x p, t = .Name x p ∧ C.sc.names.lookup x = some .local
  | [], _, t, ht => by cases ht
  | t :: ts, h, t', ht => by
    have hle : ∀ l : List Expr, (swNames C l line).length ≤ l.length := fun l => List.length_filterMap_le _ _
    unfold swNames at h hle
    rw [List.filterMap_cons] at h
    have h2 := hle ts
    cases t with
    | Name x p =>
      simp only at h
      by_cases hc : (C.sc.names.lookup x == some .local && p.line == line) = true
      · rw [if_pos hc] at h
        rcases List.mem_cons.mp ht with rfl | ht
        · refine ⟨x, p, rfl, ?_⟩
          simp only [Bool.and_eq_true] at hc
          have := hc.1
          exact by simpa using this
        · exact names_all (ts := ts) (by simpa [swNames] using h) t' ht
      · rw [if_neg hc] at h
        simp only [List.length_cons] at h
        omega
    | _ => simp only [List.length_cons] at h; omega
theorem swNames_map {C : Ct} {line : Nat} : ∀ {xs : List (Str × Pos)}, (swNames C (xs.map fun x => .Name x.1 x.2) line).length = xs.length → swNames C (xs.map fun x => .Name x.1 x.2) line = xs.map (·.1)
  | [], _ => rfl
  | x :: xs, h => by
    have hle : ∀ l : List Expr, (swNames C l line).length ≤ l.length := fun l => List.length_filterMap_le _ _
    have h2 := hle (xs.map fun x => .Name x.1 x.2)
    unfold swNames at h hle h2 ⊢
    rw [List.map_cons, List.filterMap_cons] at h ⊢
    simp only at h ⊢
    by_cases hc : (C.sc.names.lookup x.1 == some .local && x.2.line == line) = true
    · rw [if_pos hc] at h ⊢
      simp only [List.length_cons, List.map_cons] at h ⊢
      congr 1
      exact swNames_map (xs := xs) (by simpa [swNames] using h)
    · rw [if_neg hc] at h
      simp only [List.length_cons, List.length_map] at h h2
      omega
theorem rpl1 {K : PySem.W.Frag} {XR : Nat → Addr → Hp → Prop} {F : Addr → Prop} {d : Tv.D} {ds : List Tv.D} {vs : List V} (h : RpL K XR F γ H (d :: ds) vs) : ∃ v r, vs = v :: r ∧ Rp K XR F γ H d v ∧ RpL K XR F γ H ds r := by
  unfold RpL at h; exact h
theorem rpl0 {K : PySem.W.Frag} {XR : Nat → Addr → Hp → Prop} {F : Addr → Prop} {vs : List V} (h : RpL K XR F γ H [] vs) : vs = [] := by
  unfold RpL at h; exact h
theorem tgs_cons {C : Ct} {is : List Nat} {t : Expr} {ts : List Expr} (h : mtTgs C is (t :: ts) = true) : ∃ i js, is = i :: js ∧ (∀ x p, t = .Name x p → C.isTg i x = true ∧ C.M.contains i = false) ∧ mtTgs C js ts = true := by
  cases is with
  | nil => simp [mtTgs] at h
  | cons i js =>
    simp only [mtTgs, Bool.and_eq_true] at h
    refine ⟨i, js, rfl, fun x p e => ?_, h.2⟩
    subst e
    have := h.1
    simpa [dName] using this
theorem tgs_nil {C : Ct} {is : List Nat} (h : mtTgs C is [] = true) : is = [] := by
  cases is with
  | nil => rfl
  | cons i js => simp [mtTgs] at h
theorem s_par {is : List Nat} {es : Ex} {t e : Expr} {p : Pos} (O : XSt S X C k W) (h : mtS C (.par is es) (.Assign [t] e p) = true) : PS X (.Assign [t] e p) (tS S W (.par is es)) := by
  simp only [mtS] at h
  split at h
  · rename_i ts vs ht he
    obtain ⟨k1, p1, rfl⟩ := dTup_eq ht
    obtain ⟨k2, p2, rfl⟩ := dTup_eq he
    simp only [Bool.and_eq_true, decide_eq_true_eq] at h
    obtain ⟨⟨⟨⟨⟨h1, h2⟩, h3⟩, h4⟩, h5⟩, h6⟩ := h
    obtain ⟨b, hb⟩ := Option.isSome_iff_exists.mp h4
    obtain ⟨w1, w2⟩ := sw_stores (kt := k1) (k2 := k2) (pt := p1) (p2 := p2) O hb
    cases b with
    | false =>
      have hm : mtE C (.tuple es) (.Tuple vs k2 p2) = true := by simp [mtE, dTup, h2, h3, h5]
      have hg : mtTg C (.tup is) (.Tuple ts k1 p1) = true := by simp [mtTg, dTup, h1]
      refine PS.weak (ps_asg ((px k (.tuple es)).e S X C W O.toXOk _ hm) (pg_ok O.toXOk hg) (by unfold swapsWithSole; exact sw_false rfl) w1 rfl) fun D σ H ⟨env, g, γ, loc, R, q⟩ => ?_
      have q' : OutOk S W D γ loc H ((evE S.T (.tuple es) env g).out env fun d g => match d with
          | .tup ds => match setMany is ds env with
            | some e => .nx e g
            | none => .stuck
          | _ => .stuck) := by
        simp only [evS] at q
        simp only [evE]
        cases hv : evEs S.T es env g with
        | ok a g' => rw [hv] at q; exact q
        | err c g' => rw [hv] at q; exact q
        | stuck => rw [hv] at q; exact q
      clear q
      refine st1 (Rr := fun v H1 => gT X.K (.tup is) v σ H1 D.nx) R q' fun d1 g2 v1 H2 γ2 R2 s2 p1 q2 => ?_
      cases d1 with
      | tup ds =>
        simp only at q2
        cases hs : setMany is ds env with
        | none => rw [hs] at q2; exact q2.elim
        | some env1 =>
          rw [hs] at q2
          rw [← O.K]
          refine tg_ok (own := []) (C := C) (tg := .tup is) O.M O.xr (show setTg (.tup is) (.tup ds) env = some env1 from hs) hg R2 (.inl ⟨rfl, p1.rp rfl⟩) fun σ' R' n' _ => ?_
          exact q2 σ' H2 γ2 loc R' n'.step
      | _ => exact q2.elim
    | true =>
      obtain ⟨w3, w4, w5⟩ := w2 rfl
      have hn := names_all w5
      have hpa := (px k es).es S X C W O.toXOk vs h2
      have hnd : X.N.Nodup := by rw [O.N]; exact O.nd
      rcases w3 with w3 | w3
      · obtain ⟨t1, t2, rfl⟩ : ∃ a b, ts = [a, b] := by
          match ts, w3 with
          | [a, b], _ => exact ⟨a, b, rfl⟩
        obtain ⟨v1, v2, rfl⟩ : ∃ a b, vs = [a, b] := by
          have w6 : vs.length = 2 := w4
          match vs, w6 with
          | [a, b], _ => exact ⟨a, b, rfl⟩
        obtain ⟨x1, q1, rfl, l1⟩ := hn t1 (by simp)
        obtain ⟨x2, q2, rfl, l2⟩ := hn t2 (by simp)
        obtain ⟨i1, js, rfl, f1, h1⟩ := tgs_cons h1
        obtain ⟨i2, js, rfl, f2, h1⟩ := tgs_cons h1
        have := tgs_nil h1; subst this
        obtain ⟨g1, m1⟩ := f1 _ _ rfl
        obtain ⟨g2, m2⟩ := f2 _ _ rfl
        have m1 : i1 ∉ S.M := by rw [O.M]; simpa using m1
        have m2 : i2 ∉ S.M := by rw [O.M]; simpa using m2
        have ne : i1 ≠ i2 := by simpa using h6
        have hnames := swNames_map (C := C) (xs := [(x1, q1), (x2, q2)]) w5
        rw [if_pos rfl] at w1
        erw [hnames] at w1
        refine PS.weak (ps_par O.calm hnd (isTg_ok O.toXOk g1).1 (isTg_ok O.toXOk g2).1 ne (by rw [O.sc]; exact l1) (by rw [O.sc]; exact l2) hpa w1 (by unfold swapsWithSole; exact sw_false rfl)) fun D σ H ⟨env, g, γ, loc, R, q⟩ => ?_
        simp only [evS] at q
        refine ⟨env, g, γ, loc, R, (out_sat (σ := σ) q).mono (fun ds g1 q1 vs H1 γ1 R1 s1 _ hr => ?_) fun _ _ x => x⟩
        have r := hr h3
        have q1 := OutOk.after R s1.toStep q1
        match ds, r, q1 with
        | [], _, q1 => exact q1.elim
        | [_], _, q1 => exact q1.elim
        | [d1, d2], r, q1 =>
          obtain ⟨u1, r1, rfl, a1, r⟩ := rpl1 r
          obtain ⟨u2, r1, rfl, a2, r⟩ := rpl1 r
          have := rpl0 r; subst this
          exact ⟨u1, u2, rfl, q1 _ H1 γ1 loc (SR.setN (SR.setN R1 m1 a1) m2 a2) .refl⟩
        | _ :: _ :: _ :: _, _, q1 => exact q1.elim
      · obtain ⟨t1, t2, t3, rfl⟩ : ∃ a b c, ts = [a, b, c] := by
          match ts, w3 with
          | [a, b, c], _ => exact ⟨a, b, c, rfl⟩
        obtain ⟨v1, v2, v3, rfl⟩ : ∃ a b c, vs = [a, b, c] := by
          have w6 : vs.length = 3 := w4
          match vs, w6 with
          | [a, b, c], _ => exact ⟨a, b, c, rfl⟩
        obtain ⟨x1, q1, rfl, l1⟩ := hn t1 (by simp)
        obtain ⟨x2, q2, rfl, l2⟩ := hn t2 (by simp)
        obtain ⟨x3, q3, rfl, l3⟩ := hn t3 (by simp)
        obtain ⟨i1, js, rfl, f1, h1⟩ := tgs_cons h1
        obtain ⟨i2, js, rfl, f2, h1⟩ := tgs_cons h1
        obtain ⟨i3, js, rfl, f3, h1⟩ := tgs_cons h1
        have := tgs_nil h1; subst this
        obtain ⟨g1, m1⟩ := f1 _ _ rfl
        obtain ⟨g2, m2⟩ := f2 _ _ rfl
        obtain ⟨g3, m3⟩ := f3 _ _ rfl
        have m1 : i1 ∉ S.M := by rw [O.M]; simpa using m1
        have m2 : i2 ∉ S.M := by rw [O.M]; simpa using m2
        have m3 : i3 ∉ S.M := by rw [O.M]; simpa using m3
        have ne : (i1 ≠ i2 ∧ i1 ≠ i3) ∧ i2 ≠ i3 := by simpa using h6
        have hnames := swNames_map (C := C) (xs := [(x1, q1), (x2, q2), (x3, q3)]) w5
        rw [if_pos rfl] at w1
        erw [hnames] at w1
        refine PS.weak (ps_par3 O.calm hnd (isTg_ok O.toXOk g1).1 (isTg_ok O.toXOk g2).1 (isTg_ok O.toXOk g3).1 ne.1.1 ne.1.2 ne.2 (by rw [O.sc]; exact l1) (by rw [O.sc]; exact l2) (by rw [O.sc]; exact l3) hpa w1 (by unfold swapsWithSole; exact sw_false rfl)) fun D σ H ⟨env, g, γ, loc, R, q⟩ => ?_
        simp only [evS] at q
        refine ⟨env, g, γ, loc, R, (out_sat (σ := σ) q).mono (fun ds g1 q1 vs H1 γ1 R1 s1 _ hr => ?_) fun _ _ x => x⟩
        have r := hr h3
        have q1 := OutOk.after R s1.toStep q1
        match ds, r, q1 with
        | [], _, q1 => exact q1.elim
        | [_], _, q1 => exact q1.elim
        | [_, _], _, q1 => exact q1.elim
        | [d1, d2, d3], r, q1 =>
          obtain ⟨u1, r1, rfl, a1, r⟩ := rpl1 r
          obtain ⟨u2, r1, rfl, a2, r⟩ := rpl1 r
          obtain ⟨u3, r1, rfl, a3, r⟩ := rpl1 r
          have := rpl0 r; subst this
          exact ⟨u1, u2, u3, rfl, q1 _ H1 γ1 loc (SR.setN (SR.setN (SR.setN R1 m1 a1) m2 a2) m3 a3) .refl⟩
        | _ :: _ :: _ :: _ :: _, _, q1 => exact q1.elim
  · cases h
theorem newSlot {env : Env} {g : G} {σ : L2.St} {H : Hp} {γ : List Addr} {loc : Lc} {i : Nat} {p : Addr} (R : S.R env g σ H γ loc) (hx : XRok S.XR) (hm : i ∈ S.M) (hi : i < env.length) (hp : H p = none) :
    ∃ loc', S.R (Tv.st env i (some (.lst []))) g (σ.set i (some (.ref p))) (upd H p (.lst [])) γ loc' ∧ Step γ loc H γ loc' (upd H p (.lst [])) := by
  obtain ⟨R2, s2⟩ := alloc_new R hx (o := .lst []) hp
  have m := avoid (s2.mono (loc' := loc) R hx) hp
  refine ⟨_, SR.setM R2 hm (R2.len ▸ hi) upd_same RpL.nil (fp_new R hp) (fun j d hj hd => ?_) (fun j b ys d hl hb hd => ?_) RpL.nil, ⟨s2.keep, s2.live, s2.grow, s2.newg, fun j b hb => ?_⟩⟩
  · obtain ⟨v, e1, r1⟩ := R.slotN j d hj hd
    exact ⟨v, e1, r1.mono m⟩
  · obtain ⟨b', zs, es, e3, e4, _, e5, r5⟩ := R.slotM j _ (R.live j b hl).1 hd
    rw [hl] at e4; cases e4
    cases e3
    rw [s2.own j b hl, e5] at hb
    cases hb
    exact r5.mono m
  · by_cases hj : j = i
    · simp only [hj, if_true] at hb
      cases hb
      exact .inr hp
    · simp only [hj, if_false] at hb
      exact .inl ⟨j, hb⟩
theorem news_cons {C : Ct} {is : List Nat} {t : Expr} {ts vs : List Expr} (h : mtNews C is (t :: ts) vs = true) : ∃ i js v ws, is = i :: js ∧ vs = v :: ws ∧ (∀ x p, t = .Name x p → C.isTg i x = true ∧ C.M.contains i = true) ∧ (∃ p, v = .List [] p) ∧ mtNews C js ts ws = true := by
  cases is with
  | nil => simp [mtNews] at h
  | cons i js =>
    cases vs with
    | nil => simp [mtNews] at h
    | cons v ws =>
      simp only [mtNews, Bool.and_eq_true] at h
      obtain ⟨⟨h1, h2⟩, h3⟩ := h
      refine ⟨i, js, v, ws, rfl, rfl, fun x p e => ?_, ?_, h3⟩
      · subst e
        simpa [dName] using h1
      · split at h2
        · rename_i hv
          obtain ⟨p, rfl⟩ := dList_eq hv
          exact ⟨p, rfl⟩
        · cases h2
theorem news_nil {C : Ct} {is : List Nat} {vs : List Expr} (h : mtNews C is [] vs = true) : is = [] ∧ vs = [] := by
  cases is <;> cases vs <;> simp [mtNews] at h
  exact ⟨rfl, rfl⟩
theorem s_newm {is : List Nat} {t e : Expr} {p : Pos} (O : XSt S X C k W) (h : mtS C (.newm is) (.Assign [t] e p) = true) : PS X (.Assign [t] e p) (tS S W (.newm is)) := by
  simp only [mtS] at h
  split at h
  · rename_i ts vs ht he
    obtain ⟨k1, p1, rfl⟩ := dTup_eq ht
    obtain ⟨k2, p2, rfl⟩ := dTup_eq he
    simp only [Bool.and_eq_true, decide_eq_true_eq] at h
    obtain ⟨⟨⟨h1, hb⟩, h5⟩, h6⟩ := h
    obtain ⟨w1, w2⟩ := sw_stores (kt := k1) (k2 := k2) (pt := p1) (p2 := p2) O hb
    obtain ⟨w3, w4, w5⟩ := w2 rfl
    have hn := names_all w5
    have hnd : X.N.Nodup := by rw [O.N]; exact O.nd
    obtain ⟨t1, t2, t3, rfl⟩ : ∃ a b c, ts = [a, b, c] := by
      match ts, is, vs, h5, h1 with
      | [a, b, c], _, _, _, _ => exact ⟨a, b, c, rfl⟩
      | [], [_, _, _], _, _, h1 => cases h1
      | [_], [_, _, _], [], _, h1 => simp [mtNews] at h1
      | [_], [_, _, _], _ :: _, _, h1 => simp [mtNews] at h1
      | [_, _], [_, _, _], [], _, h1 => simp [mtNews] at h1
      | [_, _], [_, _, _], [_], _, h1 => simp [mtNews] at h1
      | [_, _], [_, _, _], _ :: _ :: _, _, h1 => simp [mtNews] at h1
      | _ :: _ :: _ :: _ :: _, [_, _, _], [], _, h1 => simp [mtNews] at h1
      | _ :: _ :: _ :: _ :: _, [_, _, _], [_], _, h1 => simp [mtNews] at h1
      | _ :: _ :: _ :: _ :: _, [_, _, _], [_, _], _, h1 => simp [mtNews] at h1
      | _ :: _ :: _ :: _ :: _, [_, _, _], _ :: _ :: _ :: _, _, h1 => simp [mtNews] at h1
    obtain ⟨x1, q1, rfl, l1⟩ := hn t1 (by simp)
    obtain ⟨x2, q2, rfl, l2⟩ := hn t2 (by simp)
    obtain ⟨x3, q3, rfl, l3⟩ := hn t3 (by simp)
    obtain ⟨i1, js1, v1, ws1, e1, e2, f1, ⟨r1, e3⟩, ha⟩ := news_cons h1
    obtain ⟨i2, js2, v2, ws2, e4, e5, f2, ⟨r2, e6⟩, hb2⟩ := news_cons ha
    obtain ⟨i3, js3, v3, ws3, e7, e8, f3, ⟨r3, e9⟩, hc⟩ := news_cons hb2
    obtain ⟨ea, eb⟩ := news_nil hc
    subst ea eb e9 e8 e7 e6 e5 e4 e3 e2 e1
    obtain ⟨g1, m1⟩ := f1 _ _ rfl
    obtain ⟨g2, m2⟩ := f2 _ _ rfl
    obtain ⟨g3, m3⟩ := f3 _ _ rfl
    have m1 : i1 ∈ S.M := by rw [O.M]; simpa using m1
    have m2 : i2 ∈ S.M := by rw [O.M]; simpa using m2
    have m3 : i3 ∈ S.M := by rw [O.M]; simpa using m3
    have ne : (i1 ≠ i2 ∧ i1 ≠ i3) ∧ i2 ≠ i3 := by simpa using h6
    have hnames := swNames_map (C := C) (xs := [(x1, q1), (x2, q2), (x3, q3)]) w5
    rw [if_pos rfl] at w1
    erw [hnames] at w1
    have hpa : PA X [.List [] r1, .List [] r2, .List [] r3] _ := pa_cons (pe_lst pa_nil) (pa_cons (pe_lst pa_nil) (pa_cons (pe_lst pa_nil) pa_nil))
    refine PS.weak (ps_par3 O.calm hnd (isTg_ok O.toXOk g1).1 (isTg_ok O.toXOk g2).1 (isTg_ok O.toXOk g3).1 ne.1.1 ne.1.2 ne.2 (by rw [O.sc]; exact l1) (by rw [O.sc]; exact l2) (by rw [O.sc]; exact l3) hpa w1 (by unfold swapsWithSole; exact sw_false rfl)) fun D σ H ⟨env, g, γ, loc, R, q⟩ => ?_
    simp only [evS] at q
    split at q
    · rename_i hall
      simp only [List.all_cons, List.all_nil, Bool.and_true, Bool.and_eq_true, decide_eq_true_eq] at hall
      refine ⟨by simp, fun a ha => ⟨by simp, fun b hb => ⟨by simp, fun c hc => ?_⟩⟩⟩
      obtain ⟨loc1, R1, s1⟩ := newSlot R O.xr m1 hall.1 ha
      obtain ⟨loc2, R2, s2⟩ := newSlot R1 O.xr m2 (by rw [st_len]; exact hall.2.1) hb
      obtain ⟨loc3, R3, s3⟩ := newSlot R2 O.xr m3 (by rw [st_len, st_len]; exact hall.2.2) hc
      refine ⟨_, _, _, rfl, ?_⟩
      exact q _ _ γ loc3 R3 ((s1.trans s2 R.cellne).trans s3 R.cellne)
    · exact q.elim
  · cases h
theorem mut_mono {i : Nat} {p : Addr} {vs : List V} {env : Env} {g : G} {σ : L2.St} {H : Hp} {γ : List Addr} {loc : Lc} (R : S.R env g σ H γ loc) (hx : XRok S.XR) (hl : loc i = some p) :
    Mono S.XR (Fp γ loc S.ext) γ H (Fp γ loc S.ext) γ (upd H p (.lst vs)) := by
  obtain ⟨ys, ep⟩ := R.own hl
  refine ⟨fun a xs e f => ⟨?_, f⟩, fun a o ho e => ?_, List.prefix_refl _, fun c a h => hx c a H h _ fun b hb o e => ?_⟩
  · rw [upd_ne (fun (z : a = p) => f (.inr (.inl ⟨i, z ▸ hl⟩)))]; exact e
  · rw [upd_ne (fun (z : a = p) => by rw [z, ep] at e; cases e; exact ho _ rfl)]; exact e
  · rw [upd_ne (fun (z : b = p) => hb ys (z ▸ ep))]; exact e
theorem st_st : ∀ (e : Env) (i : Nat) (a b : Option Tv.D), Tv.st (Tv.st e i a) i b = Tv.st e i b
  | [], _, _, _ => rfl
  | _ :: _, 0, _, _ => rfl
  | x :: r, n + 1, a, b => by
    show x :: Tv.st (Tv.st r n a) n b = x :: Tv.st r n b
    rw [st_st r n a b]
theorem s_set2 {i : Nat} {kx1 kx2 x1 x2 : Ex} {t e : Expr} {p : Pos} (O : XSt S X C k W) (h : mtS C (.set2 i kx1 kx2 x1 x2) (.Assign [t] e p) = true) : PS X (.Assign [t] e p) (tS S W (.set2 i kx1 kx2 x1 x2)) := by
  simp only [mtS] at h
  split at h
  · rename_i t1 t2 v1 v2 ht he
    obtain ⟨k1, p1, rfl⟩ := dTup_eq ht
    obtain ⟨k2, p2, rfl⟩ := dTup_eq he
    split at h
    · rename_i o1 y1 o2 y2 hs1 hs2
      obtain ⟨pt1, rfl⟩ := dSub_eq hs1
      obtain ⟨pt2, rfl⟩ := dSub_eq hs2
      split at h
      · rename_i n1 n2 hn1 hn2
        obtain ⟨py1, eo1⟩ := dName_eq hn1
        obtain ⟨py2, eo2⟩ := dName_eq hn2
        subst eo1 eo2
        simp only [Bool.and_eq_true, decide_eq_true_eq] at h
        obtain ⟨⟨⟨⟨⟨⟨⟨h1, h2⟩, h3⟩, h4⟩, h5⟩, h6⟩, h7⟩, h8⟩ := h
        obtain ⟨w1, w2⟩ := sw_stores (kt := k1) (k2 := k2) (pt := p1) (p2 := p2) O h7
        have hm : i ∈ S.M := by rw [O.M]; simpa using h3
        obtain ⟨z1, z2, rfl, rfl⟩ : ∃ z1 z2, kx1 = .var z1 ∧ kx2 = .var z2 := by
          cases kx1 <;> cases kx2 <;> first | exact ⟨_, _, rfl, rfl⟩ | cases h8
        obtain ⟨a1, a2, a3, a4⟩ := isVar_ok O.toXOk h1
        obtain ⟨b1, b2, b3, b4⟩ := isVar_ok O.toXOk h2
        have g1 := pg_sub (pos := pt1) (pe_var (pos := py1) a1 a2 a3 a4) ((px k (.var z1)).e S X C W O.toXOk y1 h4) set_list (sub_assign (nice_of h4))
        have g2 := pg_sub (pos := pt2) (pe_var (pos := py2) b1 b2 b3 b4) ((px k (.var z2)).e S X C W O.toXOk y2 h5) set_list (sub_assign (nice_of h5))
        refine PS.weak (ps_asg ((px k (.tuple (.cons x1 (.cons x2 .nil)))).e S X C W O.toXOk _ h6) (pg_tup (n := 2) O.calm (pgs_cons g1 (pgs_cons g2 pgs_nil))) (by unfold swapsWithSole; exact sw_false rfl) w1 rfl) fun D σ H ⟨env, g, γ, loc, R, q⟩ => ?_
        have q' : OutOk S W D γ loc H ((evE S.T (.tuple (.cons x1 (.cons x2 .nil))) env g).out env fun d g => match d with
            | .tup [d1, d2] => (evE S.T (.var z1) env g).out env fun n1 g => match gt env i, n1 with
              | some (.lst xs), .int n1 => match setAt xs n1 d1 with
                | some ys => (evE S.T (.var z2) (Tv.st env i (some (.lst ys))) g).out env fun n2 g => match n2 with
                  | .int n2 => match setAt ys n2 d2 with
                    | some zs => .nx (Tv.st env i (some (.lst zs))) g
                    | none => .stuck
                  | _ => .stuck
                | none => .stuck
              | _, _ => .stuck
            | _ => .stuck) := by
          simp only [evS] at q
          simp only [evE, evEs]
          cases e1 : evE S.T x1 env g with
          | ok d1 g1 =>
            rw [e1] at q
            simp only [Res.out, Res.bind] at q ⊢
            cases e2 : evE S.T x2 env g1 with
            | ok d2 g2 =>
              rw [e2] at q
              simp only [Res.out, Res.bind] at q ⊢
              exact q
            | err c g2 => rw [e2] at q; exact q
            | stuck => rw [e2] at q; exact q
          | err c g1 => rw [e1] at q; exact q
          | stuck => rw [e1] at q; exact q
        clear q
        refine st1 (Rr := fun v H1 => gTup X.K 2 _ v σ H1 D.nx) R q' fun dd g2 w1 H2 γ2 R2 s2 p1 q2 => ?_
        split at q2
        · rename_i d1 d2
          have r := p1.rp rfl
          unfold Rp at r
          obtain ⟨ta, us, rfl, e3, r⟩ := r
          obtain ⟨u1, r1, rfl, c1, r⟩ := rpl1 r
          obtain ⟨u2, r1, rfl, c2, r⟩ := rpl1 r
          have := rpl0 r; subst this
          rw [← O.K]
          refine ⟨ta, [u1, u2], rfl, e3, rfl, u1, [u2], rfl, ?_⟩
          cases hd : gt env i with
          | none =>
            rw [hd] at q2
            simp only [evE] at q2
            cases hz : gt env z1 with
            | none => rw [hz] at q2; exact q2.elim
            | some dz => rw [hz] at q2; exact q2.elim
          | some d =>
            obtain ⟨a, xs, ds, rfl, f1, f2, f3, f4⟩ := R2.slotM i d hm hd
            rw [hd] at q2
            refine ⟨_, f2, ?_⟩
            refine st1 (Rr := fun iv H2 => rSetL (.ref a) iv u1 H2 fun H3 => gCons _ gNil [u2] σ H3 D.nx) R2 q2 fun d3 g3 w3 H3 γ3 R3 s3 p3 q3 => ?_
            cases d3 with
            | int n3 =>
              have := (p3.val.op R3).int; subst this
              simp only at q3
              cases hs : setAt ds n3 d1 with
              | none => rw [hs] at q3; exact q3.elim
              | some ys =>
                rw [hs] at q3
                obtain ⟨j, hj, rfl⟩ := setAt_ok hs
                obtain ⟨a2, zs, es, ee, m1, m2, m3, m4⟩ := R3.slotM i _ hm hd
                cases ee
                rw [f1] at m1; cases m1
                have c1' := c1.mono (s3.mono (loc' := loc) R2 O.xr)
                refine ⟨a, zs, n3, j, rfl, rfl, m3, by rw [m4.len]; exact hj, ?_⟩
                obtain ⟨R4, s4⟩ := SR.mut R3 O.xr hm f1 hd (m4.set j c1')
                refine ⟨u2, [], rfl, ?_⟩
                have hil : i < env.length := by
                  rw [R3.len]; exact (List.getElem?_eq_some_iff.mp m2).1
                have hd4 : gt (Tv.st env i (some (.lst (ds.set j d1)))) i = some (.lst (ds.set j d1)) := by
                  rw [gt_st, if_pos ⟨rfl, hil⟩]
                obtain ⟨a5, zs5, ds5, ee, n1', n2', n3', n4'⟩ := R4.slotM i _ hm hd4
                cases ee
                rw [f1] at n1'; cases n1'
                refine ⟨_, n2', ?_⟩
                have q4 := OutOk.after R3 s4 q3
                have q5 : OutOk S W D γ3 loc (upd H3 a (.lst (zs.set j u1))) ((evE S.T (.var z2) (Tv.st env i (some (.lst (ds.set j d1)))) g3).out (Tv.st env i (some (.lst (ds.set j d1)))) fun n2 g => match n2 with
                    | .int n2 => match setAt (ds.set j d1) n2 d2 with
                      | some zs => .nx (Tv.st env i (some (.lst zs))) g
                      | none => .stuck
                    | _ => .stuck) := by
                  simp only [evE] at q4 ⊢
                  cases hz : gt (Tv.st env i (some (.lst (ds.set j d1)))) z2 with
                  | none => rw [hz] at q4; exact q4
                  | some dz => rw [hz] at q4; exact q4
                refine st1 (Rr := fun iv H2 => rSetL (.ref a) iv u2 H2 fun H3 => gNil [] σ H3 D.nx) R4 q5 fun d6 g6 w6 H6 γ6 R6 s6 p6 q6 => ?_
                cases d6 with
                | int n6 =>
                  have := (p6.val.op R6).int; subst this
                  simp only at q6
                  cases hs6 : setAt (ds.set j d1) n6 d2 with
                  | none => rw [hs6] at q6; exact q6.elim
                  | some ys =>
                    rw [hs6] at q6
                    obtain ⟨j6, hj6, rfl⟩ := setAt_ok hs6
                    obtain ⟨a7, zs7, ds7, ee, o1, o2, o3, o4⟩ := R6.slotM i _ hm hd4
                    cases ee
                    rw [f1] at o1; cases o1
                    have c2' := ((c2.mono (s3.mono (loc' := loc) R2 O.xr)).mono (mut_mono R3 O.xr f1)).mono (s6.mono (loc' := loc) R4 O.xr)
                    refine ⟨a, zs7, n6, j6, rfl, rfl, o3, by rw [o4.len]; exact hj6, rfl, ?_⟩
                    obtain ⟨R8, s8⟩ := SR.mut R6 O.xr hm f1 hd4 (o4.set j6 c2')
                    have e8 : Tv.st (Tv.st env i (some (.lst (ds.set j d1)))) i (some (.lst ((ds.set j d1).set j6 d2))) = Tv.st env i (some (.lst ((ds.set j d1).set j6 d2))) := st_st _ _ _ _
                    rw [e8] at R8
                    exact q6 σ _ γ6 loc R8 s8
                | _ => exact q6.elim
            | _ => exact q3.elim
        · exact q2.elim
      · cases h
    · cases h
  · cases h
end
end Tv

set_option Elab.async false
set_option linter.all false
set_option maxRecDepth 100000
/-! Soundness of statements: stores by an operator; try. -/
namespace Tv
open PySem PySem.Spec PyProof.Rows L2

section
variable {S : Se} {X : Cx} {C : Ct} {k : Nat} {W : WX} {De : Ends} {env env1 : Env} {g g1 : G} {σ σ1 : L2.St} {H H' H1 : Hp} {γ γ' γ1 : List Addr} {loc loc' loc1 : Lc} {st : Stmt}

def rGetL : V → V → Hp → VK → Prop := fun x y H Q => ∃ p xs i v, x = .ref p ∧ y = .int i ∧ H p = some (.lst xs) ∧ 0 ≤ i ∧ xs[i.toNat]? = some v ∧ Q v H
theorem get_list : PGet X rGetL := by
  intro pins s σ H o i ov iv Q I ro ri h
  obtain ⟨p, xs, n, v, rfl, rfl, hp, h0, hv, q⟩ := h
  cases ro
  obtain ⟨t, rfl⟩ := ri
  obtain ⟨its, r, pl, hz⟩ := I.list (SqL.of (K := X.K) hp)
  obtain ⟨w, ew, rw'⟩ := r.get hv
  have hl := r.length
  have hn := line63
  have hi := (List.getElem?_eq_some_iff.mp hv).1
  exact wpAny_getItem_list pl.isList h0 (by omega) (by simpa using ew) ⟨v, H, I, rw', q⟩
theorem ip_ints {o : Bop} {op : Operator} (h4 : opIs o op = true) : PIp X op (fun x y H Q => ∃ a b d, x = .int a ∧ y = .int b ∧ binD o (.int a) (.int b) = some d ∧ (∀ c, d = .int c → Q (.int c) H)) := by
  intro pins s σ H x y v u Q I r1 r2 ⟨a, b, d, e1, e2, e3, q⟩
  subst e1 e2
  cases o with
  | add =>
    cases op <;> first | (cases h4; done) | skip
    cases e3
    exact ip_add pins s σ H _ _ v u Q I r1 r2 ⟨a, b, rfl, rfl, q _ rfl⟩
  | sub =>
    cases op <;> first | (cases h4; done) | skip
    cases e3
    exact ip_sub pins s σ H _ _ v u Q I r1 r2 ⟨a, b, rfl, rfl, q _ rfl⟩
  | mul =>
    cases op <;> first | (cases h4; done) | skip
    simp only [binD] at e3
    split at e3
    · rename_i hb
      cases e3
      obtain ⟨t1, rfl⟩ := r1
      obtain ⟨t2, rfl⟩ := r2
      have hb' : CMul a b := hb
      exact PyProof.Rows.imul_int ⟨.int _, H, I.tok _, ⟨_, rfl⟩, q _ rfl⟩ hb'.ok
    · cases e3
  | fdiv => cases op <;> cases h4
  | mod => cases op <;> cases h4
  | pow => cases op <;> cases h4
theorem bin_int {o : Bop} {a b : Int} {y : Tv.D} (h : binD o (.int a) (.int b) = some y) : ∃ c, y = .int c := by
  cases o <;> simp only [binD] at h
  all_goals first
    | (cases h; exact ⟨_, rfl⟩)
    | (split at h
       · cases h; exact ⟨_, rfl⟩
       · cases h)
theorem aug_store {e : Expr} (h : nice e = true) : ∀ ov iv new, augStore e ov iv new = (do holding [new, ov, iv] (setItem ov iv new); release [new, ov, iv] []; pure .next) := by
  intro ov iv new
  cases e <;> first | rfl | cases h
theorem s_augs {i : Nat} {kx x : Ex} {o : Bop} {t e : Expr} {op : Operator} {p : Pos} (O : XOk S X C k W) (h : mtS C (.augs i kx o x) (.AugAssign t op e p) = true) : PS X (.AugAssign t op e p) (tS S W (.augs i kx o x)) := by
  simp only [mtS] at h
  split at h
  · rename_i w y ht
    obtain ⟨pt, rfl⟩ := dSub_eq ht
    split at h
    · rename_i n hn
      obtain ⟨py, eo⟩ := dName_eq hn
      subst eo
      simp only [Bool.and_eq_true] at h
      obtain ⟨⟨⟨⟨h1, h2⟩, h3⟩, h4⟩, h5⟩ := h
      have hm : i ∈ S.M := by rw [O.M]; simpa using h2
      obtain ⟨v1, v2, v3, v4⟩ := isVar_ok O h1
      refine PS.weak (ps_augS (pe_var v1 v2 v3 v4) ((px k kx).e S X C W O y h3) get_list ((px k x).e S X C W O e h5) (ip_ints h4) set_list (aug_store (nice_of h3))) fun D σ H ⟨env, g, γ, loc, R, q⟩ => ?_
      simp only [evS] at q
      cases hd : gt env i with
      | none => rw [hd] at q; exact q.elim
      | some d =>
        obtain ⟨a, xs, ds, rfl, e1, e2, e3, r⟩ := R.slotM i d hm hd
        rw [hd] at q
        refine ⟨_, e2, ?_⟩
        refine st1 R q fun d1 g2 w1 H2 γ2 R2 s2 p1 q2 => ?_
        cases d1 with
        | int n1 =>
          have := (p1.val.op R2).int; subst this
          simp only at q2
          split at q2
          · rename_i h0
            obtain ⟨a2, zs, es, ee, f1, f2, f3, r3⟩ := R2.slotM i _ hm hd
            cases ee
            rw [e1] at f1; cases f1
            cases hz : ds[n1.toNat]? with
            | none => rw [hz] at q2; exact q2.elim
            | some z =>
              rw [hz] at q2
              cases z with
              | int az =>
                obtain ⟨u, hu, ru⟩ := r3.get hz
                unfold Rp at ru
                subst ru
                refine ⟨a, zs, n1, .int az, rfl, rfl, f3, h0, hu, ?_⟩
                refine st1 (Rr := fun yv H4 => ∃ a' b d, V.int az = .int a' ∧ yv = .int b ∧ binD o (.int a') (.int b) = some d ∧ ∀ c, d = .int c → rSetL (.ref a) (.int n1) (.int c) H4 fun H6 => D.nx σ H6) R2 q2 fun d3 g3 w3 H3 γ3 R3 s3 p3 q3 => ?_
                cases d3 with
                | int b =>
                  have := (p3.val.op R3).int; subst this
                  simp only at q3
                  cases hb : binD o (.int az) (.int b) with
                  | none => rw [hb] at q3; exact q3.elim
                  | some yv =>
                    rw [hb] at q3
                    refine ⟨az, b, yv, rfl, rfl, hb, fun c ec => ?_⟩
                    subst ec
                    simp only at q3
                    cases hs : setAt ds n1 (.int c) with
                    | none => rw [hs] at q3; exact q3.elim
                    | some ws =>
                      rw [hs] at q3
                      obtain ⟨j, hj, rfl⟩ := setAt_ok hs
                      obtain ⟨a4, zs4, es4, ee, k1, k2, k3, r4⟩ := R3.slotM i _ hm hd
                      cases ee
                      rw [e1] at k1; cases k1
                      refine ⟨a, zs4, n1, j, rfl, rfl, k3, by rw [r4.len]; exact hj, ?_⟩
                      obtain ⟨R5, s5⟩ := SR.mut R3 O.xr hm e1 hd (r4.set j Rp.int)
                      exact q3 σ _ γ3 loc R5 s5
                | _ => exact q3.elim
              | _ => exact q2.elim
          · exact q2.elim
        | _ => exact q2.elim
    · cases h
  · cases h
theorem nolistL_set : ∀ {xs : List Tv.D} {d : Tv.D} (j : Nat), nolistL xs = true → nolist d = true → nolistL (xs.set j d) = true
  | [], d, _, h, _ => rfl
  | x :: r, d, 0, h, h2 => by
    have h' : nolist x = true ∧ nolistL r = true := by simpa [nolistL] using h
    simp [nolistL, h2, h'.2]
  | x :: r, d, j + 1, h, h2 => by
    have h' : nolist x = true ∧ nolistL r = true := by simpa [nolistL] using h
    simp [nolistL, h'.1, nolistL_set j h'.2 h2]
theorem s_augc {a kx x : Ex} {o : Bop} {t e : Expr} {op : Operator} {p : Pos} (O : XOk S X C k W) (h : mtS C (.augc a kx o x) (.AugAssign t op e p) = true) : PS X (.AugAssign t op e p) (tS S W (.augc a kx o x)) := by
  simp only [mtS] at h
  split at h
  · rename_i w y ht
    obtain ⟨pt, rfl⟩ := dSub_eq ht
    simp only [Bool.and_eq_true] at h
    obtain ⟨⟨⟨h1, h3⟩, h4⟩, h5⟩ := h
    refine PS.weak (ps_augS ((px k a).e S X C W O w h1) ((px k kx).e S X C W O y h3) get_list ((px k x).e S X C W O e h5) (ip_ints h4) set_list (aug_store (nice_of h3))) fun D σ H ⟨env, g, γ, loc, R, q⟩ => ?_
    simp only [evS] at q
    refine st1 (Rr := fun o1 H1 => tE S W kx σ H1 fun i1 H2 => rGetL o1 i1 H2 fun x1 H3 => tE S W x σ H3 fun y1 H4 => ∃ a b d, x1 = .int a ∧ y1 = .int b ∧ binD o (.int a) (.int b) = some d ∧ ∀ c, d = .int c → rSetL o1 i1 (.int c) H4 fun H6 => D.nx σ H6) R q fun d0 g0 v0 H0 γ0 R0 s0 p0 q0 => ?_
    refine st1 R0 q0 fun d1 g2 w1 H2 γ2 R2 s2 p1 q2 => ?_
    cases d0 with
    | cell m =>
      cases d1 with
      | int n1 =>
        have := (p1.val.op R2).int; subst this
        have o0 := (p0.val.step s2 R0 O.xr).op R2
        unfold OpV Rp at o0
        obtain ⟨b, rfl, hb⟩ := o0
        simp only at q2
        cases hg : g2[m]? with
        | none => rw [hg] at q2; exact q2.elim
        | some cl =>
          rw [hg] at q2
          cases cl with
          | ins _ _ => exact q2.elim
          | lst xs =>
            simp only at q2
            split at q2
            · rename_i h0
              obtain ⟨nl, zs, f3, r3⟩ := R2.cells m b _ hb hg
              cases hz : xs[n1.toNat]? with
              | none => rw [hz] at q2; exact q2.elim
              | some z =>
                rw [hz] at q2
                cases z with
                | int az =>
                  obtain ⟨u, hu, ru⟩ := r3.get hz
                  unfold Rp at ru
                  subst ru
                  refine ⟨b, zs, n1, .int az, rfl, rfl, f3, h0, hu, ?_⟩
                  refine st1 (Rr := fun yv H4 => ∃ a' bb d, V.int az = .int a' ∧ yv = .int bb ∧ binD o (.int a') (.int bb) = some d ∧ ∀ c, d = .int c → rSetL (.ref b) (.int n1) (.int c) H4 fun H6 => D.nx σ H6) R2 q2 fun d3 g3 w3 H3 γ3 R3 s3 p3 q3 => ?_
                  cases d3 with
                  | int bb =>
                    have := (p3.val.op R3).int; subst this
                    cases hg3 : g3[m]? with
                    | none => rw [hg3] at q3; exact q3.elim
                    | some cl3 =>
                      rw [hg3] at q3
                      cases cl3 with
                      | ins _ _ => exact q3.elim
                      | lst ys =>
                        simp only at q3
                        cases hbn : binD o (.int az) (.int bb) with
                        | none => rw [hbn] at q3; exact q3.elim
                        | some yv =>
                          rw [hbn] at q3
                          refine ⟨az, bb, yv, rfl, rfl, hbn, fun c ec => ?_⟩
                          subst ec
                          simp only at q3
                          cases hs : setAt ys n1 (.int c) with
                          | none => rw [hs] at q3; exact q3.elim
                          | some ws =>
                            rw [hs] at q3
                            obtain ⟨j, hj, rfl⟩ := setAt_ok hs
                            have hb3 := pre_get s3.grow hb
                            obtain ⟨nl4, zs4, k3, r4⟩ := R3.cells m b _ hb3 hg3
                            refine ⟨b, zs4, n1, j, rfl, rfl, k3, by rw [r4.len]; exact hj, ?_⟩
                            obtain ⟨R5, s5⟩ := SR.cellset R3 O.xr hb3 hg3 (nolistL_set j nl4 rfl) (r4.set j Rp.int)
                            exact q3 σ _ γ3 loc R5 s5.toStep
                  | _ => exact q3.elim
                | _ => exact q2.elim
            · exact q2.elim
      | _ => exact q2.elim
    | _ => exact q2.elim
  · cases h
/-- the same place, other wishes of exceptions -/
theorem XSt.retry {pn : List (Addr × Obj)} {xe : Value → Shared → Prop} {W' : WX} (O : XSt S X C k W) (tk : Takes (X.tr pn xe) W') (ow : PassesOwn (model X.prog X.w) X.A X.env xe) : XSt S (X.tr pn xe) C k W' where
  K := O.K
  N := O.N
  sc := O.sc
  fn := O.fn
  M := O.M
  calm := O.calm
  nd := O.nd
  free := O.free
  cons := O.cons
  room := O.room
  xr := O.xr
  call := O.call
  meth := O.meth
  make := O.make
  rd := O.rd
  fld := O.fld
  tr := O.tr
  tk := tk
  kind := O.kind
  own := ow
  rs := O.rs
  hs := O.hs
  hf := O.hf
  hx := O.hx
theorem SR.setNone {i : Nat} (R : S.R env g σ H γ loc) (hm : i ∉ S.M) : S.R (Tv.st env i none) g (σ.set i none) H γ loc := by
  refine { len := by rw [st_len, List.length_set]; exact R.len, gl := R.gl, gnd := R.gnd, cells := R.cells, ex := R.ex, slotM := ?_, slotN := ?_, live := ?_, inj := R.inj, apart := R.apart }
  · intro j d hj hd
    have hij : i ≠ j := fun z => hm (z ▸ hj)
    rw [gt_st, if_neg (fun z => hij z.1)] at hd
    obtain ⟨a, xs, ds, e1, e2, e3, e4, r⟩ := R.slotM j d hj hd
    exact ⟨a, xs, ds, e1, e2, by rw [List.getElem?_set_ne hij]; exact e3, e4, r⟩
  · intro j d hj hd
    rw [gt_st] at hd
    split at hd
    · cases hd
    · rename_i hz
      obtain ⟨v, e1, r⟩ := R.slotN j d hj hd
      have hij : i ≠ j := by
        rintro rfl
        refine hz ⟨rfl, ?_⟩
        rw [R.len]; exact (List.getElem?_eq_some_iff.mp e1).1
      exact ⟨v, by rw [List.getElem?_set_ne hij]; exact e1, r⟩
  · intro j a h
    obtain ⟨h1, d, h2⟩ := R.live j a h
    have hij : i ≠ j := fun z => hm (z ▸ h1)
    exact ⟨h1, d, by rw [gt_st, if_neg (fun z => hij z.1)]; exact h2⟩
theorem s_try {b : St} {i j : Nat} {body : List Stmt} {hsx : List ExceptHandler} {p : Pos} (O : XSt S X C k W) (hb : ∀ S X C W, XSt S X C k W → ∀ l, mtSs C b l = true → PSs X l (tS S W b)) (h : mtS C (.tryc b i j) (.Try body hsx [] [] p) = true) : PS X (.Try body hsx [] [] p) (tS S W (.tryc b i j)) := by
  simp only [mtS] at h
  split at h
  · rename_i x n yn m hx
    · obtain ⟨px, py, pv, p4, p5, eh⟩ := dHand_eq hx
      simp only at eh
      subst eh
      simp only [Bool.and_eq_true, Bool.not_eq_true', decide_eq_true_eq] at h
      obtain ⟨⟨⟨⟨⟨⟨⟨⟨⟨⟨⟨⟨⟨h1, h2⟩, h3⟩, h4⟩, h5⟩, h6⟩, h7⟩, h8⟩, h9⟩, h10⟩, h11⟩, h12⟩, h13⟩, h14⟩ := h
      have ex : x = "ListError" := by simpa using h1
      subst ex
      have en : m = n := by simpa using h6
      subst en
      have T := O.tr h3
      obtain ⟨a0, hle, hexm⟩ := T.le
      obtain ⟨g1, g2, g3⟩ := isGl_ok O.toXOk h2
      obtain ⟨i1, i2, i3⟩ := isTg_ok O.toXOk h4
      obtain ⟨j1, j2, j3⟩ := isTg_ok O.toXOk h9
      have mi : i ∉ S.M := by rw [O.M]; simpa using h11
      have mj : j ∉ S.M := by rw [O.M]; simpa using h12
      have ki : X.env.kindOf m = some .local := by unfold PySem.Env.kindOf; rw [O.sc]; exact h5
      have kj : X.env.kindOf yn = some .local := by unfold PySem.Env.kindOf; rw [O.sc]; exact h10
      have hvis : Vis X.env.scope m := .inl (by rw [O.sc]; exact h5)
      have hlt : i < X.N.length := (List.getElem?_eq_some_iff.mp i1).1
      refine PS.weak (ps_try_keep (tb := fun W => tS S W b) (Wout := W) (c := .ref a0) O.hs O.hf O.hx (by rw [O.N]; exact O.nd) i1 ki j1 kj h13 hlt hvis h7 h8 ⟨g1, g2, .inl hle⟩ O.tk (fun W' pn xe tk ow => hb S _ C W' (O.retry tk ow) body h14)) fun D σ H ⟨env, g, γ, loc, R, q⟩ => ?_
      refine ⟨env, g, γ, loc, R, ?_⟩
      simp only [evS] at q
      revert q
      cases evS S.T b env g with
      | nx e g' => exact fun q => q
      | ret d g' => exact fun q => q
      | brk e g' => exact fun q => q
      | cnt e g' => exact fun q => q
      | stuck => exact fun q => q
      | err c e g' =>
        intro q
        simp only at q
        split at q
        · rename_i hc
          intro σ' H' γ' loc' R' s'
          refine ⟨true, hexm c hc, fun _ => ⟨rfl, fun a ha => ?_⟩, fun z => by cases z⟩
          obtain ⟨R2, s2⟩ := alloc_new R' O.xr (o := ExcH (S.cv c) a) ha
          have rx : Rp S.K S.XR (Fp γ' loc' S.ext) γ' (upd H' a (ExcH (S.cv c) a)) (.exc c) (.ref a) := by
            unfold Rp
            exact ⟨a, rfl, (T.xr c a _ hc).mpr upd_same⟩
          exact q _ _ γ' loc' (SR.setNone (SR.setN (SR.setN R2 mi rx) mj rx) mi) (s'.trans s2.toStep R.cellne)
        · exact q.elim
  · cases h
end
end Tv

set_option Elab.async false
set_option linter.all false
set_option maxRecDepth 100000
/-! Soundness of statements: all of them. -/
namespace Tv
open PySem PySem.Spec PyProof.Rows L2

structure PSx (k : Nat) (s : St) : Prop where
  p : ∀ S X C W, XSt S X C k W → ∀ t, mtS C s t = true → PS X t (tS S W s)
  b : ∀ S X C W, XSt S X C k W → ∀ l, mtSs C s l = true → PSs X l (tS S W s)
theorem no_l {C : Ct} {s : St} {l : List Stmt} (hn : s ≠ .nil) (hc : ∀ a b, s ≠ .cons a b) (h : mtSs C s l = true) : False := by
  cases s <;> first | exact hn rfl | exact hc _ _ rfl | (cases l <;> simp [mtSs] at h)
theorem sx (k : Nat) (s : St) : PSx k s := by
  induction s with
  | nil =>
    refine ⟨fun S X C W O t h => by cases t <;> simp [mtS] at h, fun S X C W O l h => ?_⟩
    cases l with
    | nil => exact s_nil
    | cons a b => simp [mtSs] at h
  | cons s r hs hr =>
    refine ⟨fun S X C W O t h => by cases t <;> simp [mtS] at h, fun S X C W O l h => ?_⟩
    cases l with
    | nil => simp [mtSs] at h
    | cons a b =>
      have h' : mtS C s a = true ∧ mtSs C r b = true := by simpa [mtSs] using h
      exact s_cons (hs.p S X C W O a h'.1) (hr.b S X C W O b h'.2)
  | die => exact ⟨fun S X C W O t h => ⟨fun p s σ H D I ⟨env, g, γ, loc, R, q⟩ => q.elim⟩, fun S X C W O l h => (no_l (by simp) (by simp) h).elim⟩
  | pass =>
    refine ⟨fun S X C W O t h => ?_, fun S X C W O l h => (no_l (by simp) (by simp) h).elim⟩
    cases t with
    | Pass p => exact s_pass
    | _ => simp [mtS] at h
  | brk =>
    refine ⟨fun S X C W O t h => ?_, fun S X C W O l h => (no_l (by simp) (by simp) h).elim⟩
    cases t with
    | Break p => exact s_brk
    | _ => simp [mtS] at h
  | cnt =>
    refine ⟨fun S X C W O t h => ?_, fun S X C W O l h => (no_l (by simp) (by simp) h).elim⟩
    cases t with
    | Continue p => exact s_cnt
    | _ => simp [mtS] at h
  | retn =>
    refine ⟨fun S X C W O t h => ?_, fun S X C W O l h => (no_l (by simp) (by simp) h).elim⟩
    cases t with
    | Return e p => cases e with
      | none => exact s_retn
      | some e => simp [mtS] at h
    | _ => simp [mtS] at h
  | ret x =>
    refine ⟨fun S X C W O t h => ?_, fun S X C W O l h => (no_l (by simp) (by simp) h).elim⟩
    cases t with
    | Return e p => cases e with
      | none => simp [mtS] at h
      | some e => exact s_ret O.toXOk h
    | _ => simp [mtS] at h
  | retm i =>
    refine ⟨fun S X C W O t h => ?_, fun S X C W O l h => (no_l (by simp) (by simp) h).elim⟩
    cases t with
    | Return e p => cases e with
      | none => simp [mtS] at h
      | some e => exact s_retm O.toXOk h
    | _ => simp [mtS] at h
  | rett es =>
    refine ⟨fun S X C W O t h => ?_, fun S X C W O l h => (no_l (by simp) (by simp) h).elim⟩
    cases t with
    | Return e p => cases e with
      | none => simp [mtS] at h
      | some e => exact s_rett O.toXOk h
    | _ => simp [mtS] at h
  | newm is =>
    refine ⟨fun S X C W O t h => ?_, fun S X C W O l h => (no_l (by simp) (by simp) h).elim⟩
    cases t with
    | Assign ts e p => match ts, h with
      | [t], h => exact s_newm O h
      | [], h => simp [mtS] at h
      | _ :: _ :: _, h => simp [mtS] at h
    | _ => simp [mtS] at h
  | asg i x =>
    refine ⟨fun S X C W O t h => ?_, fun S X C W O l h => (no_l (by simp) (by simp) h).elim⟩
    cases t with
    | Assign ts e p => match ts, h with
      | [t], h => exact s_asg O.toXOk O.kind h
      | [], h => simp [mtS] at h
      | _ :: _ :: _, h => simp [mtS] at h
    | _ => simp [mtS] at h
  | asgm i x =>
    refine ⟨fun S X C W O t h => ?_, fun S X C W O l h => (no_l (by simp) (by simp) h).elim⟩
    cases t with
    | Assign ts e p => match ts, h with
      | [t], h => exact s_asgm O.toXOk O.kind h
      | [], h => simp [mtS] at h
      | _ :: _ :: _, h => simp [mtS] at h
    | _ => simp [mtS] at h
  | mov i j =>
    refine ⟨fun S X C W O t h => ?_, fun S X C W O l h => (no_l (by simp) (by simp) h).elim⟩
    cases t with
    | Assign ts e p => match ts, h with
      | [t], h => exact s_mov O.toXOk h
      | [], h => simp [mtS] at h
      | _ :: _ :: _, h => simp [mtS] at h
    | _ => simp [mtS] at h
  | unp is x =>
    refine ⟨fun S X C W O t h => ?_, fun S X C W O l h => (no_l (by simp) (by simp) h).elim⟩
    cases t with
    | Assign ts e p => match ts, h with
      | [t], h => exact s_unp O.toXOk h
      | [], h => simp [mtS] at h
      | _ :: _ :: _, h => simp [mtS] at h
    | _ => simp [mtS] at h
  | par is es =>
    refine ⟨fun S X C W O t h => ?_, fun S X C W O l h => (no_l (by simp) (by simp) h).elim⟩
    cases t with
    | Assign ts e p => match ts, h with
      | [t], h => exact s_par O h
      | [], h => simp [mtS] at h
      | _ :: _ :: _, h => simp [mtS] at h
    | _ => simp [mtS] at h
  | seti i k x =>
    refine ⟨fun S X C W O t h => ?_, fun S X C W O l h => (no_l (by simp) (by simp) h).elim⟩
    cases t with
    | Assign ts e p => match ts, h with
      | [t], h => exact s_seti O.toXOk h
      | [], h => simp [mtS] at h
      | _ :: _ :: _, h => simp [mtS] at h
    | _ => simp [mtS] at h
  | setc a k x =>
    refine ⟨fun S X C W O t h => ?_, fun S X C W O l h => (no_l (by simp) (by simp) h).elim⟩
    cases t with
    | Assign ts e p => match ts, h with
      | [t], h => exact s_setc O.toXOk h
      | [], h => simp [mtS] at h
      | _ :: _ :: _, h => simp [mtS] at h
    | _ => simp [mtS] at h
  | aug i o x =>
    refine ⟨fun S X C W O t h => ?_, fun S X C W O l h => (no_l (by simp) (by simp) h).elim⟩
    cases t with
    | AugAssign t op e p => exact s_aug O.toXOk h
    | _ => simp [mtS] at h
  | app i x =>
    refine ⟨fun S X C W O t h => ?_, fun S X C W O l h => (no_l (by simp) (by simp) h).elim⟩
    cases t with
    | Expr e p => exact s_app O.toXOk h
    | _ => simp [mtS] at h
  | appc a x =>
    refine ⟨fun S X C W O t h => ?_, fun S X C W O l h => (no_l (by simp) (by simp) h).elim⟩
    cases t with
    | Expr e p => exact s_appc O.toXOk h
    | _ => simp [mtS] at h
  | rmv i x =>
    refine ⟨fun S X C W O t h => ?_, fun S X C W O l h => (no_l (by simp) (by simp) h).elim⟩
    cases t with
    | Expr e p => exact s_rmv O.toXOk h
    | _ => simp [mtS] at h
  | exp x =>
    refine ⟨fun S X C W O t h => ?_, fun S X C W O l h => (no_l (by simp) (by simp) h).elim⟩
    cases t with
    | Expr e p => exact s_exp O.toXOk h
    | _ => simp [mtS] at h
  | ife c s r hs hr =>
    refine ⟨fun S X C W O t h => ?_, fun S X C W O l h => (no_l (by simp) (by simp) h).elim⟩
    cases t with
    | If e a b p => exact s_if O (hs.b S X C W O) (hr.b S X C W O) h
    | _ => simp [mtS] at h
  | whl n c s hs =>
    refine ⟨fun S X C W O t h => ?_, fun S X C W O l h => (no_l (by simp) (by simp) h).elim⟩
    cases t with
    | While e a b p => cases b with
      | nil => exact s_whl O (hs.b S X C W O) h
      | cons x y => simp [mtS] at h
    | _ => simp [mtS] at h
  | forr tg it s hs =>
    refine ⟨fun S X C W O t h => ?_, fun S X C W O l h => (no_l (by simp) (by simp) h).elim⟩
    cases t with
    | For t e a b p => cases b with
      | nil => exact s_for O (hs.b S X C W O) h
      | cons x y => simp [mtS] at h
    | _ => simp [mtS] at h
  | raise c =>
    refine ⟨fun S X C W O t h => ?_, fun S X C W O l h => (no_l (by simp) (by simp) h).elim⟩
    cases t with
    | Raise e f p => cases e with
      | none => simp [mtS] at h
      | some e => cases f with
        | none => exact s_raise O h
        | some x => simp [mtS] at h
    | _ => simp [mtS] at h
  | augs i k o x =>
    refine ⟨fun S X C W O t h => ?_, fun S X C W O l h => (no_l (by simp) (by simp) h).elim⟩
    cases t with
    | AugAssign t op e p => exact s_augs O.toXOk h
    | _ => simp [mtS] at h
  | augc a k o x =>
    refine ⟨fun S X C W O t h => ?_, fun S X C W O l h => (no_l (by simp) (by simp) h).elim⟩
    cases t with
    | AugAssign t op e p => exact s_augc O.toXOk h
    | _ => simp [mtS] at h
  | set2 i a b c d =>
    refine ⟨fun S X C W O t h => ?_, fun S X C W O l h => (no_l (by simp) (by simp) h).elim⟩
    cases t with
    | Assign ts e p => match ts, h with
      | [t], h => exact s_set2 O h
      | [], h => simp [mtS] at h
      | _ :: _ :: _, h => simp [mtS] at h
    | _ => simp [mtS] at h
  | tryc b i j hb =>
    refine ⟨fun S X C W O t h => ?_, fun S X C W O l h => (no_l (by simp) (by simp) h).elim⟩
    cases t with
    | Try body hs orelse fin p =>
      cases orelse with
      | nil => cases fin with
        | nil => exact s_try O hb.b h
        | cons x y => simp [mtS] at h
      | cons x y => simp [mtS] at h
    | _ => simp [mtS] at h
end Tv

set_option Elab.async false
set_option linter.all false
set_option maxRecDepth 100000
/-! A def keeps its promise. -/
namespace Tv
open PySem PySem.Spec PyProof.Rows L2

def CallK (P : Program) (w : World) (K : PySem.W.Frag) (mg : Str → Option Value) (base : Heap) (XR : Nat → Addr → Hp → Prop) (cv : Nat → Value) (k : Nat) (f : Str) (F : Fn) : Prop :=
  ∃ fa fd ps, mg f = some (.ref fa) ∧ PySem.W.keepIn K (.ref fa) = true ∧ Binds K fd ps [] ∧ FnOk P w K mg base (L2.CX P w) k fa fd ps (spF K XR cv ps.length F) ∧ ∀ ds g, ds.length ≠ ps.length → F ds g = .stuck
theorem CallK.mono {P : Program} {w : World} {K : PySem.W.Frag} {mg : Str → Option Value} {base : Heap} {XR : Nat → Addr → Hp → Prop} {cv : Nat → Value} {j k : Nat} {f : Str} {F : Fn} (h : CallK P w K mg base XR cv j f F) (l : j ≤ k) : CallK P w K mg base XR cv k f F := by
  obtain ⟨fa, fd, ps, h1, h2, h3, h4, h5⟩ := h
  exact ⟨fa, fd, ps, h1, h2, h3, h4.mono l, h5⟩

def MethK (P : Program) (w : World) (K : PySem.W.Frag) (mg : Str → Option Value) (base : Heap) (XR : Nat → Addr → Hp → Prop) (cv : Nat → Value) (k : Nat) (m : Str) (F : Fn) : Prop :=
  ∃ j C fa fd ps, j + 1 ≤ k ∧ cv 100 = .ref C ∧ Cls K C ∧ Meth K C m fa ∧ Binds K fd ps [] ∧ rdF.contains m = false ∧ FnOk P w K mg base (L2.CX P w) j fa fd ps (spF K XR cv ps.length F) ∧ ∀ ds g, ds.length ≠ ps.length → F ds g = .stuck
theorem MethK.mono {P : Program} {w : World} {K : PySem.W.Frag} {mg : Str → Option Value} {base : Heap} {XR : Nat → Addr → Hp → Prop} {cv : Nat → Value} {j k : Nat} {f : Str} {F : Fn} (h : MethK P w K mg base XR cv j f F) (l : j ≤ k) : MethK P w K mg base XR cv k f F := by
  obtain ⟨i, C, fa, fd, ps, h1, h2⟩ := h
  exact ⟨i, C, fa, fd, ps, Nat.le_trans h1 l, h2⟩
def MakeK (P : Program) (w : World) (K : PySem.W.Frag) (mg : Str → Option Value) (base : Heap) (XR : Nat → Addr → Hp → Prop) (cv : Nat → Value) (k : Nat) (x : Str) (F : Fn) : Prop :=
  ∃ j C fi fd ps, j + 1 ≤ k ∧ mg x = some (.ref C) ∧ Mk K C fi ∧ Binds K fd ps [] ∧ FnOk P w K mg base (L2.CX P w) j fi fd ps (spRd K XR cv C F)
theorem MakeK.mono {P : Program} {w : World} {K : PySem.W.Frag} {mg : Str → Option Value} {base : Heap} {XR : Nat → Addr → Hp → Prop} {cv : Nat → Value} {j k : Nat} {f : Str} {F : Fn} (h : MakeK P w K mg base XR cv j f F) (l : j ≤ k) : MakeK P w K mg base XR cv k f F := by
  obtain ⟨i, C, fa, fd, ps, h1, h2⟩ := h
  exact ⟨i, C, fa, fd, ps, Nat.le_trans h1 l, h2⟩
/-- what stands around the defs -/
structure Wd (P : Program) (w : World) (K : PySem.W.Frag) (mg : Str → Option Value) (base : Heap) (XR : Nat → Addr → Hp → Prop) (cv : Nat → Value) (free : List Str) (cons : List (Str × D)) (cls : List Str) (tr rd : Bool) : Prop where
  free : ∀ x, x ∈ free → mg x = none
  cons : ∀ p, p ∈ cons → ∃ u v, mg p.1 = some u ∧ RelV v u ∧ LitV p.2 v
  cls : ∀ n f, cls[n]? = some f → f ≠ ("" : Str) → ClsOk K mg cv n f
  xr : XRok XR
  rdA : ∀ a H, XR 100 a H → ∃ C dx fs, cv 100 = .ref C ∧ H a = some (.ins C dx fs)
  fld : rd = true → ∃ A, cv 100 = .ref A ∧ Cls K A ∧ ∀ f, f ∈ rdF → NoAttr K A f
  tr : tr = true → TrOk K XR cv mg

section
variable {P : Program} {w : World} {K : PySem.W.Frag} {mg : Str → Option Value} {base : Heap} {XR : Nat → Addr → Hp → Prop} {cv : Nat → Value} {free : List Str} {cons : List (Str × D)} {cls : List Str} {ms rdm : List (Nat × Str)} {tr rd : Bool}
theorem gt_app {e : Env} {m i : Nat} {d : D} (h : gt (e ++ List.replicate m none) i = some d) : i < e.length ∧ gt e i = some d := by
  induction e generalizing i with
  | nil =>
    exfalso
    rw [List.nil_append] at h
    induction m generalizing i with
    | zero => simp [gt] at h
    | succ m ih =>
      rw [List.replicate_succ] at h
      cases i with
      | zero => cases h
      | succ i => exact ih h
  | cons x r ih =>
    cases i with
    | zero => exact ⟨by simp, h⟩
    | succ i =>
      obtain ⟨h1, h2⟩ := ih (i := i) h
      exact ⟨by simp; omega, h2⟩
theorem gt_map {ds : List D} {i : Nat} {d : D} (h : gt (ds.map some) i = some d) : ds[i]? = some d := by
  induction ds generalizing i with
  | nil => simp [gt] at h
  | cons x r ih =>
    cases i with
    | zero => simpa [gt] using h
    | succ i => simpa using ih (i := i) h
theorem Step.next {γ γ' : List Addr} {loc' : Lc} {H H' : Hp} (s : StepF γ (fun _ => none) H γ' H') : Next γ H γ' H' := ⟨fun a o h e => s.keep a o h (fun _ z => by cases z) e, s.live, s.grow, s.newg⟩
/-- the place where a def's body stands -/
theorem mk_xst {q : Str} {sc : Scope} {f : Addr} {N ps : List Str} {M : List Nat} {fns : List Str} {T : List Fn} {k : Nat} {cdv : Value} {A : Around} {outer : List PySem.Env} {s : Shared} {H : Hp} {E : XK} {ext : Addr → Prop}
    (Sc : FnScope N ps sc) (Wo : Wd P w K mg base XR cv free cons cls tr rd) (hr : Room k (A.deeper (envOfC q sc s.heap.objs.size f cdv)))
    (hc : ∀ n g, fns[n]? = some g → g ≠ ("" : Str) → CallK P w K mg base XR cv k g (T.getD n stk)) (hme : ∀ n m, (n, m) ∈ ms → MethK P w K mg base XR cv k m (T.getD n stk)) (hmk : ∀ n x, (n, x) ∈ rdm → MakeK P w K mg base XR cv k x (T.getD n stk)) :
    XSt ⟨K, XR, ext, M, T, cv⟩ (cxOf (L2.CX P w) P w K mg base N q sc f cdv A outer s H E) ⟨N, sc, fun _ => true, M, fns, free, cons, cls, ms, rdm, tr, rd⟩ k (fun cls d _ H => E cls d H) := {
  K := rfl, N := rfl, sc := rfl, fn := rfl, M := rfl, calm := rfl, nd := Sc.nd, free := Wo.free, cons := Wo.cons, room := hr, xr := Wo.xr
  call := hc
  meth := hme
  make := hmk
  rd := Wo.rdA
  fld := Wo.fld
  tr := Wo.tr
  tk := takes_of rfl rfl rfl rfl
  kind := Sc.kind
  own := passes_of rfl
  rs := Wo.cls
  hs := rfl
  hf := rfl
  hx := rfl }
theorem def_ok {x qn : Str} {params : Arguments} {body : List Stmt} {sc : Scope} {f : Addr} {fd : FuncData} {N ps : List Str} {M : List Nat} {fns : List Str} {T : List Fn} {k : Nat} {b : St}
    (F : FunD K x qn params body sc [] [] f fd) (Sc : FnScope N ps sc) (Wo : Wd P w K mg base XR cv free cons cls tr rd) (mt : mtSs ⟨N, sc, fun _ => true, M, fns, free, cons, cls, ms, rdm, tr, rd⟩ b body = true) (hM : M.all (fun i => decide (ps.length ≤ i)) = true)
    (hc : ∀ n g, fns[n]? = some g → g ≠ ("" : Str) → CallK P w K mg base XR cv k g (T.getD n stk)) (hme : ∀ n m, (n, m) ∈ ms → MethK P w K mg base XR cv k m (T.getD n stk)) (hmk : ∀ n x, (n, x) ∈ rdm → MakeK P w K mg base XR cv k x (T.getD n stk)) :
    FnOk P w K mg base (L2.CX P w) (k + 1) f fd ps (spF K XR cv ps.length (mkFn T ps.length N.length b)) := by
  refine F.ok Sc (fun vs H Q E h => ?_) (fun cdv A outer s H vs Q E hr h => ?_)
  · obtain ⟨ext, γ, g, ds, h1, _⟩ := h
    exact h1
  obtain ⟨ext, γ, g, ds, h1, R0, rv, q⟩ := h
  let S : Se := ⟨K, XR, ext, M, T, cv⟩
  let X : Cx := cxOf (L2.CX P w) P w K mg base N qn sc f cdv A outer s H E
  let W : WX := fun cls d _ H => E cls d H
  let C : Ct := ⟨N, sc, fun _ => true, M, fns, free, cons, cls, ms, rdm, tr, rd⟩
  have O : XSt S X C k W := mk_xst Sc Wo hr hc hme hmk
  have hlen : ds.length = ps.length := by rw [← rv.len]; exact h1
  have hpl : ps.length ≤ N.length := by have := congrArg List.length Sc.pre; rw [List.length_take] at this; omega
  refine ⟨tS S W b, (sx k b).b S X C W O body mt, ⟨ds.map some ++ List.replicate (N.length - ps.length) none, g, γ, fun _ => none, ?_, ?_⟩⟩
  · refine { len := ?_, gl := R0.gl, gnd := R0.gnd, cells := R0.cells, ex := R0.ex, slotM := ?_, slotN := ?_, live := fun i a z => (by cases z), inj := fun i j a z => (by cases z), apart := fun i a z => (by cases z) }
    · simp [L2.start, hlen, h1]
    · intro i d hm hd
      obtain ⟨l1, _⟩ := gt_app hd
      rw [List.length_map, hlen] at l1
      have := List.all_eq_true.mp hM i hm
      simp only [decide_eq_true_eq] at this
      omega
    · intro i d _ hd
      obtain ⟨l1, hd⟩ := gt_app hd
      obtain ⟨v, e1, r1⟩ := rv.get (gt_map hd)
      rw [List.length_map, hlen] at l1
      refine ⟨v, ?_, r1⟩
      unfold L2.start
      rw [List.getElem?_append_left (by rw [List.length_map]; omega), List.getElem?_map, e1]; rfl
  · unfold mkFn at q
    rw [if_pos hlen] at q
    show OutOk S W _ γ (fun _ => none) H (evS T b (ds.map some ++ List.replicate (N.length - ps.length) none) g)
    revert q
    cases evS T b (ds.map some ++ List.replicate (N.length - ps.length) none) g with
    | nx e g' => exact fun q σ' H' γ' loc' R' s' => q .non H' γ' (SR.enterB R') (Step.next (loc' := loc') s'.f) .non
    | ret d g' => exact fun q v H' γ' R' s' r => q v H' γ' R' (Step.next (loc' := fun _ => none) s') r
    | err c e g' => exact fun q σ' H' γ' loc' R' s' => q H' γ' (SR.enterB R') (Step.next (loc' := loc') s'.f)
    | brk e g' => exact fun q => q.elim
    | cnt e g' => exact fun q => q.elim
    | stuck => exact fun q => q.elim
/-- .. as others call it -/
theorem def_call {x : Str} {params : Arguments} {body : List Stmt} {sc : Scope} {f : Addr} {fd : FuncData} {N ps : List Str} {M : List Nat} {fns : List Str} {T : List Fn} {k : Nat} {b : St}
    (F : FunD K x x params body sc [] [] f fd) (Sc : FnScope N ps sc) (Wo : Wd P w K mg base XR cv free cons cls tr rd) (mt : mtSs ⟨N, sc, fun _ => true, M, fns, free, cons, cls, ms, rdm, tr, rd⟩ b body = true) (hM : M.all (fun i => decide (ps.length ≤ i)) = true)
    (hc : ∀ n g, fns[n]? = some g → g ≠ ("" : Str) → CallK P w K mg base XR cv k g (T.getD n stk)) (hme : ∀ n m, (n, m) ∈ ms → MethK P w K mg base XR cv k m (T.getD n stk)) (hmk : ∀ n x, (n, x) ∈ rdm → MakeK P w K mg base XR cv k x (T.getD n stk))
    (hg : mg x = some (.ref f)) (hb : Binds K fd ps []) : CallK P w K mg base XR cv (k + 1) x (mkFn T ps.length N.length b) :=
  ⟨f, fd, ps, hg, F.kp, hb, def_ok F Sc Wo mt hM hc hme hmk, fun ds g h => by unfold mkFn; rw [if_neg h]⟩
/-- a method -/
theorem def_meth {x qn : Str} {params : Arguments} {body : List Stmt} {sc : Scope} {A f : Addr} {fd : FuncData} {N ps : List Str} {M : List Nat} {fns : List Str} {T : List Fn} {k : Nat} {b : St}
    (F : FunD K x qn params body sc [] [] f fd) (Sc : FnScope N ps sc) (Wo : Wd P w K mg base XR cv free cons cls tr rd) (mt : mtSs ⟨N, sc, fun _ => true, M, fns, free, cons, cls, ms, rdm, tr, rd⟩ b body = true) (hM : M.all (fun i => decide (ps.length ≤ i)) = true)
    (hc : ∀ n g, fns[n]? = some g → g ≠ ("" : Str) → CallK P w K mg base XR cv k g (T.getD n stk)) (hme : ∀ n m, (n, m) ∈ ms → MethK P w K mg base XR cv k m (T.getD n stk)) (hmk : ∀ n x, (n, x) ∈ rdm → MakeK P w K mg base XR cv k x (T.getD n stk))
    (hA : cv 100 = .ref A) (hC : Cls K A) (hm : Meth K A x f) (hn : rdF.contains x = false) (hb : Binds K fd ps []) : MethK P w K mg base XR cv (k + 2) x (mkFn T ps.length N.length b) :=
  ⟨k + 1, A, f, fd, ps, Nat.le_refl _, hA, hC, hm, hb, hn, def_ok F Sc Wo mt hM hc hme hmk, fun ds g h => by unfold mkFn; rw [if_neg h]⟩
end
end Tv

set_option Elab.async false
set_option linter.all false
set_option maxRecDepth 100000
/-! The reader's __init__: its lists copied, nothing read. -/
namespace Tv
open PySem PySem.Spec PyProof.Rows L2

section
variable {K : PySem.W.Frag} {XR : Nat → Addr → Hp → Prop} {F : Addr → Prop} {γ : List Addr} {H H' : Hp} {x : Addr}
/-- nothing leans on an instance that is not yet whole -/
structure But (XR : Nat → Addr → Hp → Prop) (H H' : Hp) (x : Addr) : Prop where
  at_ : ∃ C dx fs, H x = some (.ins C dx fs) ∧ fs.length ≠ 3
  ag : ∀ a, a ≠ x → H' a = H a
  xr : ∀ c a, XR c a H → XR c a H'
theorem But.ne (b : But XR H H' x) {a : Addr} {o : HO} (h : H a = some o) (ho : ∀ C dx fs, o = .ins C dx fs → fs.length = 3) : H' a = some o := by
  obtain ⟨C, dx, fs, e, l⟩ := b.at_
  have : a ≠ x := by
    rintro rfl
    rw [e] at h; cases h
    exact l (ho _ _ _ rfl)
  rw [b.ag a this]; exact h
mutual
theorem Rp.but (b : But XR H H' x) : ∀ (d : D) (v : V), Rp K XR F γ H d v → Rp K XR F γ H' d v
  | .non, _, h => h
  | .bl _, _, h => h
  | .int _, _, h => h
  | .str _, _, h => h
  | .lst ds, v, h => by
    unfold Rp at h ⊢
    obtain ⟨a, xs, e, l, r⟩ := h
    exact ⟨a, xs, e, ⟨b.ne l.1 (fun _ _ _ z => by cases z), l.2⟩, RpL.but b ds xs r⟩
  | .tup ds, v, h => by
    unfold Rp at h ⊢
    obtain ⟨a, xs, e, l, r⟩ := h
    refine ⟨a, xs, e, ?_, RpL.but b ds xs r⟩
    rcases l with (l | ⟨o, l⟩) | l
    · exact .inl (.inl (b.ne l (fun _ _ _ z => by cases z)))
    · exact .inl (.inr ⟨o, b.ne l (fun _ _ _ z => by cases z)⟩)
    · exact .inr l
  | .exc c, v, h => by
    unfold Rp at h ⊢
    obtain ⟨a, e, y⟩ := h
    exact ⟨a, e, b.xr _ _ y⟩
  | .cell n, v, h => by
    unfold Rp at h ⊢
    exact h
  | .scr ns, v, h => by
    unfold Rp at h ⊢
    obtain ⟨a, e, y⟩ := h
    refine ⟨a, e, ?_⟩
    rcases y with ⟨o, y⟩ | y
    · exact .inl ⟨o, b.ne y (fun _ _ _ z => by cases z)⟩
    · exact .inr y
  | .ins fs, v, h => by
    unfold Rp at h ⊢
    obtain ⟨a, C, dx, x0, x1, x2, e, y, l, r⟩ := h
    exact ⟨a, C, dx, x0, x1, x2, e, b.xr _ _ y, b.ne l (fun _ _ _ z => by cases z; rfl), RpL.but b fs _ r⟩
theorem RpL.but (b : But XR H H' x) : ∀ (ds : List D) (xs : List V), RpL K XR F γ H ds xs → RpL K XR F γ H' ds xs
  | [], _, h => h
  | d :: ds, xs, h => by
    unfold RpL at h ⊢
    obtain ⟨v, r, e, h1, h2⟩ := h
    exact ⟨v, r, e, Rp.but b d v h1, RpL.but b ds r h2⟩
end
end
section
variable {K : PySem.W.Frag} {XR : Nat → Addr → Hp → Prop} {ext : Addr → Prop} {M : List Nat} {env : Env} {g g' : G} {σ : L2.St} {H H' : Hp} {γ γ' : List Addr} {loc : Lc} {x : Addr}
theorem SR.but (b : But XR H H' x) (R : SR K XR ext M env g σ H γ loc) (hx : H' x ≠ none) : SR K XR ext M env g σ H' γ loc where
  len := R.len
  gl := R.gl
  gnd := R.gnd
  cells := fun n a c e1 e2 => by
    have q := R.cells n a c e1 e2
    cases c with
    | ins _ _ => exact q.elim
    | lst fs =>
      obtain ⟨nl, xs, e3, r⟩ := q
      exact ⟨nl, xs, b.ne e3 (fun _ _ _ z => by cases z), r.but b⟩
  ex := fun a h => by
    by_cases z : a = x
    · subst z; exact hx
    · rw [b.ag a z]; exact R.ex a h
  slotM := fun i d hm hd => by
    obtain ⟨a, xs, ds, e1, e2, e3, e4, r⟩ := R.slotM i d hm hd
    exact ⟨a, xs, ds, e1, e2, e3, b.ne e4 (fun _ _ _ z => by cases z), r.but b⟩
  slotN := fun i d hm hd => by
    obtain ⟨v, e1, r⟩ := R.slotN i d hm hd
    exact ⟨v, e1, r.but b⟩
  live := R.live
  inj := R.inj
  apart := R.apart
end
/-- between two stores of __init__ -/
structure Mid (S : Se) (env : Env) (σ : L2.St) (x A dx : Addr) (γ0 : List Addr) (H1 : Hp) (g : G) (H : Hp) (γ : List Addr) (fs : List (Str × V)) (ds : List D) : Prop where
  R : S.R env g σ H γ (fun _ => none)
  at_ : H x = some (.ins A dx fs)
  nx : Next γ0 H1 γ H
  rp : RpL S.K S.XR (Fp γ (fun _ => none) S.ext) γ H ds (fs.map (·.2))
/-- what is known of exceptions and readers hangs on the classes of instances only -/
def XRi (XR : Nat → Addr → Hp → Prop) : Prop := ∀ c a H, XR c a H → ∀ H', (∀ b o, (∀ C dx fs, o ≠ .ins C dx fs) → H b = some o → H' b = some o) → (∀ b C dx fs, H b = some (.ins C dx fs) → ∃ dx' fs', H' b = some (.ins C dx' fs')) → XR c a H'
theorem but_put {XR : Nat → Addr → Hp → Prop} {H : Hp} {x A dx : Addr} {fs fs' : List (Str × V)} (hi : XRi XR) (h : H x = some (.ins A dx fs)) (hl : fs.length < 3) : But XR H (upd H x (.ins A dx fs')) x where
  at_ := ⟨A, dx, fs, h, by omega⟩
  ag := fun a h => upd_ne h
  xr := fun c a y => hi c a H y _ (fun b o ho e => by
    have : b ≠ x := by
      rintro rfl
      rw [h] at e; cases e
      exact ho _ _ _ rfl
    rw [upd_ne this]; exact e) fun b C dx2 fs2 e => by
      by_cases z : b = x
      · subst z
        rw [h] at e; cases e
        exact ⟨dx, fs', upd_same⟩
      · exact ⟨dx2, fs2, by rw [upd_ne z]; exact e⟩
theorem Mid.put {S : Se} {env : Env} {σ : L2.St} {x A dx : Addr} {γ0 γ γ' : List Addr} {H1 H H' : Hp} {g g' : G} {fs : List (Str × V)} {ds : List D} {d : D} {v : V} {f : Str} (hx : XRok S.XR) (hi : XRi S.XR)
    (h0 : H1 x = none) (m : Mid S env σ x A dx γ0 H1 g H γ fs ds) (hl : fs.length < 3) (R' : S.R env g' σ H' γ' (fun _ => none)) (s : StE γ (fun _ => none) H γ' H') (rv : Rp S.K S.XR (Fp γ' (fun _ => none) S.ext) γ' H' d v) :
    H' x = some (.ins A dx fs) ∧ Mid S env σ x A dx γ0 H1 g' (upd H' x (.ins A dx (fs ++ [(f, v)]))) γ' (fs ++ [(f, v)]) (ds ++ [d]) := by
  have xg : x ∉ γ := fun z => by
    obtain ⟨ys, e⟩ := m.R.cell z
    rw [m.at_] at e; cases e
  have at' : H' x = some (.ins A dx fs) := s.keep x _ xg (fun i z => by cases z) m.at_
  have b : But S.XR H' (upd H' x (.ins A dx (fs ++ [(f, v)]))) x := but_put hi at' hl
  refine ⟨at', R'.but b (by rw [upd_same]; simp), upd_same, ⟨fun a o ha e => ?_, fun a ha => ?_, m.nx.grow.trans s.grow, fun a ha => ?_⟩, ?_⟩
  · have ax : a ≠ x := by
      rintro rfl
      rw [h0] at e; cases e
    rw [upd_ne ax]
    refine s.keep a o (fun z => ?_) (fun i z => by cases z) (m.nx.keep a o ha e)
    rcases m.nx.newg a z with q | q
    · exact ha q
    · rw [q] at e; cases e
  · by_cases z : a = x
    · subst z; rw [upd_same]; simp
    · rw [upd_ne z]; exact s.live a (m.nx.live a ha)
  · rcases s.newg a ha with q | q
    · exact m.nx.newg a q
    · refine .inr ?_
      cases e : H1 a with
      | none => rfl
      | some o => exact absurd q (m.nx.live a (by rw [e]; simp))
  · rw [List.map_append]
    exact ((m.rp.mono (s.mono (loc' := fun _ => none) m.R hx)).append (.cons rv .nil)).but b
def stF (t : Stmt) : Option (Expr × Str × Str × Expr) := match t with
  | .Assign [.Attribute (.Name x p) f _] e _ => some (.Name x p, x, f, e)
  | _ => none
theorem stF_eq {t : Stmt} {r} (h : stF t = some r) : ∃ p p2 p3, r.1 = .Name r.2.1 p ∧ t = .Assign [.Attribute (.Name r.2.1 p) r.2.2.1 p2] r.2.2.2 p3 := by
  unfold stF at h
  split at h
  · cases h; exact ⟨_, _, _, rfl, rfl⟩
  · cases h
def initS (C : Ct) (f : Str) (x : Ex) (t : Stmt) : Bool := match stF t with
  | some (_, y, g, e) => C.isVar 0 y && g == f && mtE C x e && !isLC e
  | none => false
/-- the form of __init__ -/
def mtInit (C : Ct) (n : Nat) : List Stmt → Bool
  | [.Expr e1 _, s2, s3, s4] => mtE C (.call n (.cons (.var 1) (.cons (.var 2) .nil))) e1 && !isLC e1 &&
      initS C "lists" (.tuple (.cons (.clistof (.var 1)) (.cons (.clistof (.var 2)) .nil))) s2 && initS C "depths" (.clist (.cons (.lit (.int 0)) (.cons (.lit (.int 0)) .nil))) s3 && initS C "made" (.clist .nil) s4
  | _ => false
section
variable {S : Se} {X : Cx} {C : Ct} {k : Nat} {W : WX}
/-- self.f = e -/
theorem ps_init {f : Str} {x : Ex} {t : Stmt} (O : XOk S X C k W) (h : initS C f x t = true) : PS X t (fun D σ H => tE S W x σ H fun y H1 => ∃ a A dx fs, σ[0]? = some (some (.ref a)) ∧ H1 a = some (.ins A dx fs) ∧ Cls X.K A ∧ NoAttr X.K A f ∧ fs.length < 1000 ∧ D.nx σ (upd H1 a (.ins A dx (putF f y fs)))) := by
  unfold initS at h
  split at h
  · rename_i o y g e hs
    obtain ⟨p, p2, p3, e1, rfl⟩ := stF_eq hs
    simp only [Bool.and_eq_true, Bool.not_eq_true'] at h
    obtain ⟨⟨⟨h1, h2⟩, h3⟩, h4⟩ := h
    have eg : g = f := by simpa using h2
    subst eg
    obtain ⟨v1, v2, v3, v4⟩ := isVar_ok O h1
    refine PS.weak (ps_fld (pe_var v1 v2 v3 v4) ((px k x).e S X C W O e h3) (by cases e <;> first | rfl | cases h4)) fun D σ H q => ?_
    obtain ⟨env, g', γ, loc, R, q⟩ := q
    refine ⟨env, g', γ, loc, R, q.mono (fun d g1 q1 v H' γ' R' s' p' => ?_) fun _ _ x => x⟩
    obtain ⟨a, A, dx, fs, e2, e3, e4, e5, e6, e7⟩ := q1 v H' γ' R' s' p'
    exact ⟨_, e2, a, A, dx, fs, rfl, e3, e4, e5, e6, e7⟩
  · cases h
end
theorem one_call {k : Nat} {P : Program} {w : World} {K : PySem.W.Frag} {mg : Str → Option Value} {base : Heap} {XR : Nat → Addr → Hp → Prop} {cv : Nat → Value} {F : Fn} {f0 : Str} (hc : CallK P w K mg base XR cv k f0 F) :
    ∀ n g, ([f0] : List Str)[n]? = some g → g ≠ ("" : Str) → CallK P w K mg base XR cv k g (([F] : List Fn).getD n stk) := fun n g e _ => by
  cases n with
  | zero => cases (show some f0 = some g from e); exact hc
  | succ n => simp at e
theorem init_ok {P : Program} {w : World} {K : PySem.W.Frag} {mg : Str → Option Value} {base : Heap} {XR : Nat → Addr → Hp → Prop} {cv : Nat → Value} {free : List Str} {cons : List (Str × D)} {cls : List Str} {tr : Bool}
    {x qn : Str} {params : Arguments} {body : List Stmt} {sc : Scope} {f A : Addr} {fd : FuncData} {N ps : List Str} {k : Nat} {F : Fn} {f0 : Str}
    (Fd : FunD K x qn params body sc [] [] f fd) (Sc : FnScope N ps sc) (hp : ps.length = 3) (hN : N.length = 3) (Wo : Wd P w K mg base XR cv free cons cls tr true) (mt : mtInit ⟨N, sc, fun _ => true, [], [f0], free, cons, cls, [], [], tr, true⟩ 0 body = true)
    (hc : CallK P w K mg base XR cv k f0 F) (hi : XRi XR) (hA : cv 100 = .ref A) (hrd : ∀ a H dx fs, H a = some (.ins A dx fs) → XR 100 a H) : FnOk P w K mg base (L2.CX P w) (k + 1) f fd ps (spRd K XR cv A (mkRd F)) := by
  refine Fd.ok Sc (fun vs H Q E h => ?_) (fun cdv A0 outer s H vs Q E hr h => ?_)
  · obtain ⟨x, dx, H1, ext, γ, g, ds, us, rfl, hl, _⟩ := h
    rw [List.length_cons, hl, hp]
  obtain ⟨x, dx, H1, ext, γ, g, ds, us, rfl, hl, nx, ndx, ne, rfl, R1, rv, q⟩ := h
  obtain ⟨A', hA', hC, hNo⟩ := Wo.fld rfl
  rw [hA] at hA'; cases hA'
  let S : Se := ⟨K, XR, ext, [], [F], cv⟩
  let X : Cx := cxOf (L2.CX P w) P w K mg base N qn sc f cdv A0 outer s (upd (upd H1 dx (.own x)) x (.ins A dx [])) E
  let W : WX := fun cls d _ H => E cls d H
  let C : Ct := ⟨N, sc, fun _ => true, [], [f0], free, cons, cls, [], [], tr, true⟩
  have O : XSt S X C k W := mk_xst Sc Wo hr (one_call hc) (fun n m h => by cases h) (fun n m h => by cases h)
  -- the form
  obtain ⟨e1, p1, s2, s3, s4, rfl, m1, m1', m2, m3, m4⟩ : ∃ e1 p1 s2 s3 s4, body = [.Expr e1 p1, s2, s3, s4] ∧ mtE C (.call 0 (.cons (.var 1) (.cons (.var 2) .nil))) e1 = true ∧ isLC e1 = false ∧
      initS C "lists" (.tuple (.cons (.clistof (.var 1)) (.cons (.clistof (.var 2)) .nil))) s2 = true ∧ initS C "depths" (.clist (.cons (.lit (.int 0)) (.cons (.lit (.int 0)) .nil))) s3 = true ∧ initS C "made" (.clist .nil) s4 = true := by
    unfold mtInit at mt
    split at mt
    · rename_i e1 p1 s2 s3 s4
      simp only [Bool.and_eq_true, Bool.not_eq_true'] at mt
      obtain ⟨⟨⟨⟨a1, a2⟩, a3⟩, a4⟩, a5⟩ := mt
      exact ⟨_, _, _, _, _, rfl, a1, a2, a3, a4, a5⟩
    · cases mt
  have hds : ds.length = 2 := by rw [← rv.len]; exact hl
  obtain ⟨d1, d2, rfl⟩ : ∃ a b, ds = [a, b] := by
    match ds, hds with
    | [a, b], _ => exact ⟨a, b, rfl⟩
  obtain ⟨u1, r1, rfl, a1, rv2⟩ := rpl1 rv
  obtain ⟨u2, r2, rfl, a2, rv3⟩ := rpl1 rv2
  have := rpl0 rv3; subst this
  let env : Env := [none, some d1, some d2]
  let H0 : Hp := upd (upd H1 dx (.own x)) x (.ins A dx [])
  have nx' : (upd H1 dx (.own x)) x = none := by rw [upd_ne (Ne.symm ne)]; exact nx
  have n1 : Next γ H1 γ H0 := by
    refine ⟨fun a o h e => ?_, fun a h => ?_, List.prefix_refl _, fun a h => .inl h⟩
    · rw [show H0 a = _ from upd_ne (fun z => by rw [z, nx] at e; cases e), upd_ne (fun z => by rw [z, ndx] at e; cases e)]; exact e
    · by_cases z : a = x
      · rw [z]; show (upd _ _ _) _ ≠ none; rw [upd_same]; simp
      · show (upd _ _ _) _ ≠ none
        rw [upd_ne z]
        by_cases z2 : a = dx
        · rw [z2, upd_same]; simp
        · rw [upd_ne z2]; exact h
  have hst : L2.start N [.ref x, u1, u2] = [some (.ref x), some u1, some u2] := by
    simp [L2.start, hN]
  have R0 : S.R env g [some (.ref x), some u1, some u2] H0 γ (fun _ => none) := by
    have Rn : SR K XR ext [] [] g [] H0 γ (fun _ => none) := (R1.alloc Wo.xr ndx).alloc Wo.xr nx'
    have m := n1.mono Wo.xr R1
    refine { len := rfl, gl := Rn.gl, gnd := Rn.gnd, cells := Rn.cells, ex := Rn.ex, slotM := fun i d h => (by cases h), slotN := fun i d _ h => ?_, live := fun i a z => (by cases z), inj := fun i j a z => (by cases z), apart := fun i a z => (by cases z) }
    match i, h with
    | 0, h => simp [env, gt] at h
    | 1, h => cases h; exact ⟨u1, rfl, a1.mono m⟩
    | 2, h => cases h; exact ⟨u2, rfl, a2.mono m⟩
    | n + 3, h => simp [env, gt] at h
  have M0 : Mid S env [some (.ref x), some u1, some u2] x A dx γ H1 g H0 γ [] [] := ⟨R0, upd_same, n1, .nil⟩
  have F0 : ∀ f, f ∈ rdF → NoAttr X.K A f := hNo
  refine ⟨_, pss_cons (ps_expr ((px k _).e S X C W O.toXOk e1 m1) (sw_false m1')) (pss_cons (ps_init O.toXOk m2) (pss_cons (ps_init O.toXOk m3) (pss_cons (ps_init O.toXOk m4) pss_nil))), ?_⟩
  rw [hst]
  have ev : evE S.T (.call 0 (.cons (.var 1) (.cons (.var 2) .nil))) env g = F [d1, d2] g := rfl
  refine ⟨env, g, γ, _, R0, ?_⟩
  rw [ev]
  unfold mkRd at q
  cases hF : F [d1, d2] g with
  | stuck => rw [hF] at q; exact q.elim
  | err c g1 =>
    rw [hF] at q
    intro H' γ' R' s'
    refine q H' γ' (SR.enterB R') ⟨fun a o ha e => s'.keep a o ha (fun i z => by cases z) (n1.keep a o ha e), fun a h => s'.live a (n1.live a h), s'.grow, fun a h => ?_⟩
    rcases s'.newg a h with z | z
    · exact .inl z
    · refine .inr ?_
      cases e : H1 a with
      | none => rfl
      | some o => exact absurd z (n1.live a (by rw [e]; simp))
  | ok dd g1 =>
  rw [hF] at q
  intro v1 H2 γ2 R2 s2' p2
  -- behind the check
  have M1 : Mid S env [some (.ref x), some u1, some u2] x A dx γ H1 g1 H2 γ2 [] [] := by
    have xg : x ∉ γ := fun z => R1.cellne x z nx
    refine ⟨R2, s2'.keep x _ xg (fun i z => by cases z) upd_same, ⟨fun a o ha e => s2'.keep a o ha (fun i z => by cases z) (n1.keep a o ha e), fun a h => s2'.live a (n1.live a h), s2'.grow, fun a h => ?_⟩, .nil⟩
    rcases s2'.newg a h with z | z
    · exact .inl z
    · refine .inr ?_
      cases e : H1 a with
      | none => rfl
      | some o => exact absurd z (n1.live a (by rw [e]; simp))
  -- both are lists
  have q1 : Sat (match [d1, d2] with
    | [.lst xs, .lst ys] => if nolistL xs && nolistL ys then Res.ok (D.ins [.tup [.cell g1.length, .cell (g1.length + 1)], .cell (g1.length + 2), .cell (g1.length + 3)]) (g1 ++ [.lst xs, .lst ys, .lst [.int 0, .int 0], .lst []]) else .stuck
    | _ => .stuck) _ _ := q
  obtain ⟨xs, ys, rfl, rfl, hn, q2⟩ : ∃ xs ys, d1 = .lst xs ∧ d2 = .lst ys ∧ (nolistL xs && nolistL ys) = true ∧ Sat (Res.ok (D.ins [.tup [.cell g1.length, .cell (g1.length + 1)], .cell (g1.length + 2), .cell (g1.length + 3)]) (g1 ++ [.lst xs, .lst ys, .lst [.int 0, .int 0], .lst []])) _ _ := by
    cases d1 with
    | lst xs =>
      cases d2 with
      | lst ys =>
        by_cases hn : (nolistL xs && nolistL ys) = true
        · simp only [hn, if_true] at q1
          exact ⟨xs, ys, rfl, rfl, hn, q1⟩
        · simp only [hn] at q1
          exact q1.elim
      | _ => exact q1.elim
    | _ => exact q1.elim
  obtain ⟨nl1, nl2⟩ := Bool.and_eq_true_iff.mp hn
  have e2 : evE S.T (.tuple (.cons (.clistof (.var 1)) (.cons (.clistof (.var 2)) .nil))) env g1 = .ok (.tup [.cell g1.length, .cell (g1.length + 1)]) (g1 ++ [.lst xs] ++ [.lst ys]) := by
    simp [evE, evEs, env, gt, okR, nl1, nl2]
  refine ⟨env, g1, γ2, _, R2, ?_⟩
  rw [e2]
  intro v3 H3 γ3 R3 s3' p3
  obtain ⟨x3, M3⟩ := M1.put (f := "lists") Wo.xr hi nx (by decide) R3 s3' (p3.rp rfl)
  refine ⟨x, A, dx, [], rfl, x3, hC, F0 _ (by decide), by decide, ?_⟩
  have e3 : evE S.T (.clist (.cons (.lit (.int 0)) (.cons (.lit (.int 0)) .nil))) env (g1 ++ [.lst xs] ++ [.lst ys]) = .ok (.cell (g1.length + 2)) (g1 ++ [.lst xs] ++ [.lst ys] ++ [.lst [.int 0, .int 0]]) := by
    simp [evE, evEs, nolistL, nolist]
  refine ⟨env, _, γ3, _, M3.R, ?_⟩
  rw [e3]
  intro v4 H4 γ4 R4 s4' p4
  obtain ⟨x4, M4⟩ := M3.put (f := "depths") Wo.xr hi nx (by simp) R4 s4' (p4.rp rfl)
  refine ⟨x, A, dx, _, rfl, x4, hC, F0 _ (by decide), by simp, ?_⟩
  have e4 : evE S.T (.clist .nil) env (g1 ++ [.lst xs] ++ [.lst ys] ++ [.lst [.int 0, .int 0]]) = .ok (.cell (g1.length + 3)) (g1 ++ [.lst xs] ++ [.lst ys] ++ [.lst [.int 0, .int 0]] ++ [.lst []]) := by
    simp [evE, evEs, nolistL, nolist]
  refine ⟨env, _, γ4, _, M4.R, ?_⟩
  rw [e4]
  intro v5 H5 γ5 R5 s5' p5
  obtain ⟨x5, M5⟩ := M4.put (f := "made") Wo.xr hi nx (by simp) R5 s5' (p5.rp rfl)
  refine ⟨x, A, dx, _, rfl, x5, hC, F0 _ (by decide), by simp, ?_⟩
  have eg : g1 ++ [.lst xs] ++ [.lst ys] ++ [.lst [.int 0, .int 0]] ++ [.lst []] = g1 ++ [.lst xs, .lst ys, .lst [.int 0, .int 0], .lst []] := by simp
  have RE := SR.enterB M5.R
  rw [eg] at RE
  refine q2 _ γ5 RE M5.nx ?_
  unfold Rp
  exact ⟨x, A, dx, v3, v4, v5, rfl, hrd x _ dx _ upd_same, upd_same, M5.rp⟩
end Tv

set_option Elab.async false
set_option linter.all false
set_option maxRecDepth 100000
/-! A law's end. -/
namespace Tv
open PySem PySem.Spec PyProof.Rows L2

def XR0 : Nat → Addr → Hp → Prop := fun _ _ _ => False
theorem xr0_ok : XRok XR0 := fun _ _ _ h => h.elim
section
variable {P : Program} {w : World} {K : PySem.W.Frag} {mg : Str → Option Value} {base : Heap} {XR : Nat → Addr → Hp → Prop} {cv : Nat → Value}
theorem calls_nil {k : Nat} : ∀ (n : Nat) (g : Str), ([] : List Str)[n]? = some g → g ≠ ("" : Str) → CallK P w K mg base XR cv k g (([] : List Fn).getD n stk) := fun n g h _ => by simp at h
theorem calls_cons {j k : Nat} {x : Str} {F : Fn} {fns : List Str} {T : List Fn} (h : CallK P w K mg base XR cv j x F) (l : j ≤ k) (r : ∀ n g, fns[n]? = some g → g ≠ ("" : Str) → CallK P w K mg base XR cv k g (T.getD n stk)) :
    ∀ (n : Nat) (g : Str), (x :: fns)[n]? = some g → g ≠ ("" : Str) → CallK P w K mg base XR cv k g ((F :: T).getD n stk)
  | 0, g, e, _ => by
    cases (show some x = some g from e)
    exact h.mono l
  | n + 1, g, e, h => r n g e h
theorem calls_skip {k : Nat} {F : Fn} {fns : List Str} {T : List Fn} (r : ∀ n g, fns[n]? = some g → g ≠ ("" : Str) → CallK P w K mg base XR cv k g (T.getD n stk)) :
    ∀ (n : Nat) (g : Str), (("" : Str) :: fns)[n]? = some g → g ≠ ("" : Str) → CallK P w K mg base XR cv k g ((F :: T).getD n stk)
  | 0, g, e, h => by
    cases (show some ("" : Str) = some g from e)
    exact absurd rfl h
  | n + 1, g, e, h => r n g e h
theorem ms_nil {k : Nat} {T : List Fn} : ∀ (n : Nat) (m : Str), (n, m) ∈ ([] : List (Nat × Str)) → MethK P w K mg base XR cv k m (T.getD n stk) := fun n m h => by cases h
theorem ms_cons {j k i : Nat} {x : Str} {F : Fn} {ms : List (Nat × Str)} {T : List Fn} (h : MethK P w K mg base XR cv j x F) (l : j ≤ k) (e : T.getD i stk = F) (r : ∀ n m, (n, m) ∈ ms → MethK P w K mg base XR cv k m (T.getD n stk)) :
    ∀ (n : Nat) (m : Str), (n, m) ∈ (i, x) :: ms → MethK P w K mg base XR cv k m (T.getD n stk) := fun n m h2 => by
  rcases List.mem_cons.mp h2 with z | z
  · cases z; rw [e]; exact h.mono l
  · exact r n m z
theorem mk_nil {k : Nat} {T : List Fn} : ∀ (n : Nat) (m : Str), (n, m) ∈ ([] : List (Nat × Str)) → MakeK P w K mg base XR cv k m (T.getD n stk) := fun n m h => by cases h
theorem mk_one {j k i : Nat} {x : Str} {F : Fn} {T : List Fn} (h : MakeK P w K mg base XR cv j x F) (l : j ≤ k) (e : T.getD i stk = F) :
    ∀ (n : Nat) (m : Str), (n, m) ∈ [(i, x)] → MakeK P w K mg base XR cv k m (T.getD n stk) := fun n m h2 => by
  rcases List.mem_cons.mp h2 with z | z
  · cases z; rw [e]; exact h.mono l
  · cases z
/-- the end: what the law's def promises of the script -/
theorem law_sp {F : Fn} {H : Hp} {a : Addr} {ns : List Int} (hO : Only H) (hS : SqL K H a (ns.map V.int)) (hF : ∃ g, F [.scr ns] [] = .ok (.bl true) g) : spF K XR cv 1 F [.ref a] H (fun v _ => v = .bl true) (fun _ _ _ => False) := by
  obtain ⟨g, hF⟩ := hF
  refine ⟨fun _ => False, [], [], [.scr ns], rfl, ?_, ?_, ?_⟩
  · exact { len := rfl, gl := rfl, gnd := List.nodup_nil, cells := fun n a c h => (by simp at h), ex := fun a h => h.elim, slotM := fun i d h => (by cases h), slotN := fun i d _ h => (by simp [gt] at h), live := fun i a h => (by cases h), inj := fun i j a h => (by cases h), apart := fun i a h => (by cases h) }
  · refine .cons ?_ .nil
    unfold Rp
    refine ⟨a, rfl, ?_⟩
    rcases hS with (h | ⟨o, h⟩) | h
    · rcases hO a with z | ⟨o, xs, z⟩
      · rw [h] at z; cases z
      · rw [h] at z; cases z
    · exact .inl ⟨o, h⟩
    · exact .inr h
  · rw [hF]
    intro v H' γ' _ _ r
    unfold Rp at r
    exact r
theorem cx_end : ∀ (H : Hp) (s : Shared) (e : Value) (s' : Shared), L2.CX P w [] H s (fun _ _ _ => False) e s' → False := fun H s e s' h => by
  obtain ⟨_, _, _, _, _, _, _, _, _, _, _, _, z⟩ := h
  exact z
/-- the end, where what is let out hangs on the world -/
theorem walk_w {l : PySem.W.OpenLaw} {n k : Nat} {prog : Program} {lo : List Str} {XP : (Str → Option Value) → Heap → Prop} {YP : World → Heap → Prop} {d : DefRec} {x : Str} {F : Fn}
    (h1 : l.most = some n) (h2 : n ≤ sizeLine) (h3 : d.params.defaults = []) (h4 : Room k callerA) (hF : ∀ ns : List Int, ns.length ≤ n → ∃ g, F [.scr ns] [] = .ok (.bl true) g)
    (hL : ∀ (w : World) (mg : Str → Option Value) (fa : Addr) (hp : Heap), YP w hp → hp.Ns mainGlobals mg → mg d.name = some (.ref fa) → ∃ (K : PySem.W.Frag) (XR : Nat → Addr → Hp → Prop) (cv : Nat → Value) (fd : FuncData), K.In hp ∧ (∀ (s : Shared) (u : Value), BindsTo s fd ⟨[u], []⟩ [(x, u)]) ∧
      ∀ bs : Heap, K.In bs → bs.Ns mainGlobals mg → FnOk l.prog w K mg bs (L2.CX l.prog w) k fa fd [x] (spF K XR cv 1 F)) :
    PySem.W.WalkO prog lo XP YP l.row.toRowW d [] (fun f vs => PySem.call f vs) := by
  refine Att.attach_call h1 h3 ?_
  intro w sa sb mg mb fa ob pm cdv dc a us ns G Y _ho hd _hcd hmg hob hints hlen hgen
  obtain ⟨K, XR, cv, fd, KI, hbi, hFn⟩ := hL w mg fa _ Y G.T.g hmg
  refine law_call KI G.T.g G.T.b G.T.builtins G.T.nolimit hgen hob hints (Nat.le_trans hlen h2) h4 hFn hbi (fun H o S => ?_) (fun H e t z => cx_end H sb e t z)
  exact law_sp o S (hF ns hlen)
end
end Tv

set_option Elab.async false
set_option linter.all false
set_option maxRecDepth 100000
/-! What a law's head says of the classes of exceptions and of the reader's class. -/
namespace Tv
open PySem PySem.Spec PyProof.Rows L2

/-- the classes at hand -/
def cvL (K : PySem.W.Frag) (n : Nat) : Value := if n = 100 then .ref (He.ga K "Reader") else match xcN[n]? with
  | some x => .ref (He.ga K x)
  | none => .none
def XRL (cv : Nat → Value) : Nat → Addr → Hp → Prop := fun c a H => (c < 6 ∧ H a = some (ExcH (cv c) a)) ∨ (c = 100 ∧ ∃ C dx fs, cv 100 = .ref C ∧ H a = some (.ins C dx fs))
theorem xrl_ok (cv : Nat → Value) : XRok (XRL cv) := fun c a H h H' k => by
  rcases h with ⟨h1, h2⟩ | ⟨h1, C, dx, fs, h2, h3⟩
  · exact .inl ⟨h1, k a (fun xs z => by rw [h2] at z; cases z) _ h2⟩
  · exact .inr ⟨h1, C, dx, fs, h2, k a (fun xs z => by rw [h3] at z; cases z) _ h3⟩
theorem xrl_i (cv : Nat → Value) : XRi (XRL cv) := fun c a H h H' k k2 => by
  rcases h with ⟨h1, h2⟩ | ⟨h1, C, dx, fs, h2, h3⟩
  · exact .inl ⟨h1, k a _ (fun _ _ _ z => by cases z) h2⟩
  · obtain ⟨dx', fs', e⟩ := k2 a C dx fs h3
    exact .inr ⟨h1, C, dx', fs', h2, e⟩
theorem xrl_rd {cv : Nat → Value} : ∀ a H, XRL cv 100 a H → ∃ C dx fs, cv 100 = .ref C ∧ H a = some (.ins C dx fs) := fun a H h => by
  rcases h with ⟨h1, h2⟩ | ⟨h1, h2⟩
  · omega
  · exact h2
theorem xrl_xr {cv : Nat → Value} : ∀ c a H, c < 6 → (XRL cv c a H ↔ H a = some (ExcH (cv c) a)) := fun c a H hc => ⟨fun h => by
  rcases h with ⟨h1, h2⟩ | ⟨h1, h2⟩
  · exact h2
  · omega, fun h => .inl ⟨hc, h⟩⟩
/-- isinstance of the exceptions -/
def excB (K : PySem.W.Frag) : Bool := (List.range 6).all fun k =>
  let D := He.ga K (xcN.getD k "")
  He.eqO (PySem.W.findIn K (.ref D) "__getattribute__") (some (some (.builtin "BaseException.__getattribute__"))) &&
  (He.eqO (PySem.W.findIn K (.ref D) "__getattr__") (some none) &&
  (decide (PySem.W.subIn K (.ref D) (.type "BaseException") = some true) &&
  (PySem.W.hasDictIn K D &&
  (He.eqO (PySem.W.findIn K (.ref D) "__class__") (some (some (.builtin "object.__class__"))) &&
  (He.eqO (PySem.W.specialIn K (.builtin "object.__class__") "__get__") (some (some (.builtin "getset_descriptor.__get__"))) &&
  (decide (PySem.W.takesIn K (.builtin "object.__class__") = some true) &&
  (decide (PySem.W.mroIn K D (.type "object") = some true) &&
  (((List.range 7).all fun c => decide (PySem.W.kitOne K (.ref D) (.ref (He.ga K (xcN.getD c ""))) = some (exSub k c))) &&
  (decide (PySem.W.kitOne K (.ref D) (.type "ValueError") = some true) &&
  decide (PySem.W.exmOne K (.ref D) (.ref (He.ga K "ListError")) = some true))))))))))
theorem xcN_get {k : Nat} (h : k < 7) : xcN[k]? = some (xcN.getD k "") := by
  have : ∀ k, k < 7 → xcN[k]? = some (xcN.getD k "") := by decide
  exact this k h
theorem cvL_at {K : PySem.W.Frag} {k : Nat} (h : k < 7) : cvL K k = .ref (He.ga K (xcN.getD k "")) := by
  unfold cvL
  rw [if_neg (by omega), xcN_get h]
theorem tr_ok {K : PySem.W.Frag} {mg : Str → Option Value} (h : excB K = true) (g : ∀ c, c < 7 → mg (xcN.getD c "") = some (.ref (He.ga K (xcN.getD c "")))) : TrOk K (XRL (cvL K)) (cvL K) mg := by
  have all : ∀ k, k < 6 → _ := fun k hk => List.all_eq_true.mp h k (List.mem_range.mpr hk)
  simp only [Bool.and_eq_true, decide_eq_true_eq] at all
  refine { le := ⟨_, g 6 (by decide), fun k hk => ?_⟩, xr := xrl_xr, isx := fun k hk => ?_, isc := fun c n hn => ?_, isv := fun k hk => ?_ }
  · rw [cvL_at (by omega)]
    exact (all k hk).2.2.2.2.2.2.2.2.2.2
  · obtain ⟨h1, h2, h3, h4, h5, h6, h7, h8, _⟩ := all k hk
    exact ⟨_, cvL_at (by omega), He.eqO_ok h1, He.eqO_ok h2, h3, h4, He.eqO_ok h5, He.eqO_ok h6, h7, h8⟩
  · have hc : c < 7 := (List.getElem?_eq_some_iff.mp hn).1
    rw [xcN_get hc] at hn
    cases hn
    refine ⟨_, g c hc, fun k hk => ?_⟩
    rw [cvL_at (by omega)]
    have := (all k hk).2.2.2.2.2.2.2.2.1
    exact of_decide_eq_true (List.all_eq_true.mp this c (List.mem_range.mpr hc))
  · rw [cvL_at (by omega)]
    exact (all k hk).2.2.2.2.2.2.2.2.2.1
theorem cls_of {K : PySem.W.Frag} {mg : Str → Option Value} {c : Nat} {f : Str} (hc : c < 6) (hf : xcN[c]? = some f) (e : (He.Fa.exc f).ok K = true) (g : mg f = some (.ref (He.ga K f))) : ClsOk K mg (cvL K) c f := by
  obtain ⟨e1, e2, e3, e4⟩ := He.exc_ok e
  refine ⟨⟨_, _, _, _, _, PySem.F.excBase_ValueError, e1, g, e2, e3, e4, ?_⟩⟩
  unfold cvL
  rw [if_neg (by omega), hf]

/-! ### the head's facts with them -/
abbrev AlY : Type := He.AlD × Bool
def obsY (n : Nat) (fa : List He.Fa) (fn : List He.DefD) (tr : Bool) (g : Addr → Option Obj) : AlY := (He.obsDG n fa fn g, !tr || excB (He.frG g (He.asD g n)))
structure SaysY (fa : List He.Fa) (fn : List He.DefD) (tr : Bool) (K : PySem.W.Frag) : Prop where
  d : He.SaysD fa fn K
  x : tr = true → excB K = true
def hookY (n : Nat) (fa : List He.Fa) (fn : List He.DefD) (tr : Bool) : PySem.W.Hook where
  α := AlY
  obs := fun s => obsY n fa fn tr s.heap.get?
  val := fun _ => (He.valD fn, true)
  says := fun _ h => ∃ K : PySem.W.Frag, K.In h ∧ SaysY fa fn tr K
  of := fun _ h e => ⟨_, He.frG_in, by
    have e1 : He.obsDG n fa fn h.heap.get? = He.valD fn := congrArg (fun z : AlY => z.1) e
    have e2 : (!tr || excB (He.frG h.heap.get? (He.asD h.heap.get? n))) = true := congrArg (fun z : AlY => z.2) e
    exact ⟨e1, fun ht => by subst ht; simpa using e2⟩⟩
  keeps := fun _ _ _ ⟨K, hK, c⟩ k => ⟨K, PySem.W.Frag.In.keeps hK k, c⟩
theorem obsY_eq {n : Nat} {fa : List He.Fa} {fn : List He.DefD} {tr : Bool} {g : Addr → Option Obj} {s : Shared} (h : ∀ a, g a = s.heap.get? a) : obsY n fa fn tr g = (hookY n fa fn tr).obs s := by
  have e : g = s.heap.get? := funext h
  rw [e] <;> rfl
/-- a class's own statement -/
def clsS (t : Stmt) (j : Nat) : Stmt := match t with
  | .ClassDef _ _ _ b _ _ _ _ _ _ _ => b.getD j (.Pass ⟨0, 0, 0, 0⟩)
  | _ => .Pass ⟨0, 0, 0, 0⟩
end Tv

set_option linter.all false
namespace Tv
open PySem
def b_common : St := (.cons (.whl 100000 (.cmp .ne (.var 1) (.lit (.int 0))) (.cons (.par [0, 1] (.cons (.var 1) (.cons (.bin .mod (.var 0) (.var 1)) .nil))) .nil)) (.cons (.ret (.var 0)) .nil))
def F_common : Fn := mkFn [] 2 2 b_common
def b_lowest : St := (.cons (.asg 2 (.call 0 (.cons (.var 0) (.cons (.var 1) .nil)))) (.cons (.ret (.tuple (.cons (.bin .fdiv (.var 0) (.var 2)) (.cons (.bin .fdiv (.var 1) (.var 2)) .nil)))) .nil))
def F_lowest : Fn := mkFn [F_common] 2 3 b_lowest
def b_row_of : St := (.cons (.asgm 2 (.list .nil)) (.cons (.forr (.one 3) (.irng2 (.lit (.int 1)) (.bin .add (.b1 .len (.var 0)) (.lit (.int 1)))) (.cons (.app 2 (.b1 .len (.comp (.var 4) (.one 4) (.iof (.slice (.var 0) .absent (.opt (.var 3)))) (.opt (.cmp .isin (.var 4) (.slice (.var 1) .absent (.opt (.var 3))))) [4]))) .nil)) (.cons (.retm 2) .nil)))
def F_row_of : Fn := mkFn [] 2 5 b_row_of
def b_plus : St := (.cons (.ret (.call 0 (.cons (.bin .add (.bin .mul (.sub (.var 0) (.lit (.int 0))) (.sub (.var 1) (.lit (.int 1)))) (.bin .mul (.sub (.var 1) (.lit (.int 0))) (.sub (.var 0) (.lit (.int 1))))) (.cons (.bin .mul (.sub (.var 0) (.lit (.int 1))) (.sub (.var 1) (.lit (.int 1)))) .nil)))) .nil)
def F_plus : Fn := mkFn [F_lowest] 2 2 b_plus
def b_is_int : St := (.cons (.ret (.ands (.cons (.isI .int (.var 0)) (.cons (.not (.isI .bool (.var 0))) (.cons (.chain .le .le (.var 1) (.var 0) (.var 2)) .nil))))) .nil)
def F_is_int : Fn := mkFn [] 3 3 b_is_int
def b_is_full : St := (.cons (.ife (.ors (.cons (.not (.isI .list (.var 0))) (.cons (.not (.chain .le .le (.lit (.int 1)) (.b1 .len (.var 0)) (.gcon "MOST_THINGS" (.int 7)))) .nil))) (.cons (.ret (.lit (.bl false))) .nil) .nil) (.cons (.ife (.not (.b1 .all (.comp (.call 0 (.cons (.var 1) (.cons (.lit (.int 0)) (.cons (.bin .sub (.b1 .len (.var 0)) (.lit (.int 1))) .nil)))) (.one 1) (.iof (.var 0)) .absent [1]))) (.cons (.ret (.lit (.bl false))) .nil) .nil) (.cons (.ret (.cmp .eq (.b1 .lenset (.var 0)) (.b1 .len (.var 0)))) .nil)))
def F_is_full : Fn := mkFn [F_is_int] 1 2 b_is_full
def b_check_full : St := (.cons (.ife (.not (.call 0 (.cons (.var 0) .nil))) (.cons (.raise 0) .nil) .nil) .nil)
def F_check_full : Fn := mkFn [F_is_full] 1 1 b_check_full
def b_check_both : St := (.cons (.exp (.call 0 (.cons (.var 0) .nil))) (.cons (.exp (.call 0 (.cons (.var 1) .nil))) (.cons (.ife (.cmp .ne (.b1 .len (.var 0)) (.b1 .len (.var 1))) (.cons (.raise 0) .nil) .nil) .nil)))
def F_check_both : Fn := mkFn [F_check_full] 2 2 b_check_both
def b_mean_overlap : St := (.cons (.exp (.call 3 (.cons (.var 0) (.cons (.var 1) .nil)))) (.cons (.asg 2 (.tuple (.cons (.lit (.int 0)) (.cons (.lit (.int 1)) .nil)))) (.cons (.forr (.tup [3, 4]) (.ienum (.call 1 (.cons (.var 0) (.cons (.var 1) .nil)))) (.cons (.asg 2 (.call 2 (.cons (.var 2) (.cons (.call 0 (.cons (.var 4) (.cons (.bin .add (.var 3) (.lit (.int 1))) .nil))) .nil)))) .nil)) (.cons (.ret (.call 0 (.cons (.sub (.var 2) (.lit (.int 0))) (.cons (.bin .mul (.sub (.var 2) (.lit (.int 1))) (.b1 .len (.var 0))) .nil)))) .nil))))
def F_mean_overlap : Fn := mkFn [F_lowest, F_row_of, F_plus, F_check_both] 2 5 b_mean_overlap
def b__law_low : St := (.cons (.par [2, 3] (.cons (.b1 .abs (.var 0)) (.cons (.var 1) .nil))) (.cons (.whl 100000 (.cmp .ne (.var 3) (.lit (.int 0))) (.cons (.par [2, 3] (.cons (.var 3) (.cons (.bin .mod (.var 2) (.var 3)) .nil))) .nil)) (.cons (.ret (.tuple (.cons (.bin .fdiv (.var 0) (.var 2)) (.cons (.bin .fdiv (.var 1) (.var 2)) .nil)))) .nil)))
def F__law_low : Fn := mkFn [] 2 4 b__law_low
def b_meeting_depth : St := (.cons (.exp (.call 1 (.cons (.var 0) (.cons (.var 1) .nil)))) (.cons (.ife (.not (.call 0 (.cons (.var 2) (.cons (.lit (.int 0)) (.cons (.bin .sub (.b1 .len (.var 0)) (.lit (.int 1))) .nil))))) (.cons (.raise 1) .nil) .nil) (.cons (.ret (.bin .add (.lit (.int 1)) (.b2 .max (.meth .index (.var 0) (.var 2)) (.meth .index (.var 1) (.var 2))))) .nil)))
def F_meeting_depth : Fn := mkFn [F_is_int, F_check_both] 3 3 b_meeting_depth
def b_new_common : St := (.cons (.exp (.call 0 (.cons (.var 0) (.cons (.var 1) .nil)))) (.cons (.asgm 2 (.list .nil)) (.cons (.forr (.one 3) (.irng2 (.lit (.int 1)) (.bin .add (.b1 .len (.var 0)) (.lit (.int 1)))) (.cons (.asg 4 (.comp (.var 5) (.one 5) (.iof (.slice (.var 0) .absent (.opt (.bin .sub (.var 3) (.lit (.int 1)))))) (.opt (.cmp .isin (.var 5) (.slice (.var 1) .absent (.opt (.bin .sub (.var 3) (.lit (.int 1))))))) [5])) (.cons (.app 2 (.b1 .sorted (.comp (.var 5) (.one 5) (.iof (.slice (.var 0) .absent (.opt (.var 3)))) (.opt (.ands (.cons (.cmp .isin (.var 5) (.slice (.var 1) .absent (.opt (.var 3)))) (.cons (.cmp .notin (.var 5) (.var 4)) .nil)))) [5]))) .nil))) (.cons (.retm 2) .nil))))
def F_new_common : Fn := mkFn [F_check_both] 2 6 b_new_common
def b_waiting : St := (.cons (.exp (.call 1 (.cons (.var 0) (.cons (.var 1) .nil)))) (.cons (.ife (.not (.call 0 (.cons (.var 2) (.cons (.lit (.int 0)) (.cons (.b1 .len (.var 0)) .nil))))) (.cons (.raise 1) .nil) .nil) (.cons (.asg 3 (.b1 .sorted (.comp (.var 4) (.one 4) (.iof (.slice (.var 0) .absent (.opt (.var 2)))) (.opt (.cmp .notin (.var 4) (.slice (.var 1) .absent (.opt (.var 2))))) [4]))) (.cons (.ret (.tuple (.cons (.var 3) (.cons (.b1 .sorted (.comp (.var 4) (.one 4) (.iof (.slice (.var 1) .absent (.opt (.var 2)))) (.opt (.cmp .notin (.var 4) (.slice (.var 0) .absent (.opt (.var 2))))) [4])) .nil)))) .nil))))
def F_waiting : Fn := mkFn [F_is_int, F_check_both] 3 5 b_waiting
def b_common_things : St := (.cons (.exp (.call 1 (.cons (.var 0) (.cons (.var 1) .nil)))) (.cons (.ife (.not (.call 0 (.cons (.var 2) (.cons (.lit (.int 0)) (.cons (.b1 .len (.var 0)) .nil))))) (.cons (.raise 1) .nil) .nil) (.cons (.ret (.b1 .sorted (.comp (.var 3) (.one 3) (.iof (.slice (.var 0) .absent (.opt (.var 2)))) (.opt (.cmp .isin (.var 3) (.slice (.var 1) .absent (.opt (.var 2))))) [3]))) .nil)))
def F_common_things : Fn := mkFn [F_is_int, F_check_both] 3 4 b_common_things
def b_overlap : St := (.cons (.exp (.call 1 (.cons (.var 0) (.cons (.var 1) .nil)))) (.cons (.ife (.not (.call 0 (.cons (.var 2) (.cons (.lit (.int 0)) (.cons (.b1 .len (.var 0)) .nil))))) (.cons (.raise 1) .nil) .nil) (.cons (.ret (.b1 .len (.comp (.var 3) (.one 3) (.iof (.slice (.var 0) .absent (.opt (.var 2)))) (.opt (.cmp .isin (.var 3) (.slice (.var 1) .absent (.opt (.var 2))))) [3]))) .nil)))
def F_overlap : Fn := mkFn [F_is_int, F_check_both] 3 4 b_overlap
def b_overlap_row : St := (.cons (.exp (.call 1 (.cons (.var 0) (.cons (.var 1) .nil)))) (.cons (.ret (.call 0 (.cons (.var 0) (.cons (.var 1) .nil)))) .nil))
def F_overlap_row : Fn := mkFn [F_row_of, F_check_both] 2 2 b_overlap_row
def b_is_row : St := (.cons (.ife (.ors (.cons (.not (.isI .list (.var 0))) (.cons (.not (.chain .le .le (.lit (.int 1)) (.b1 .len (.var 0)) (.lit (.int 7)))) (.cons (.not (.b1 .all (.comp (.call 0 (.cons (.var 1) (.cons (.lit (.int 0)) (.cons (.lit (.int 7)) .nil)))) (.one 1) (.iof (.var 0)) .absent [1]))) .nil)))) (.cons (.ret (.lit (.bl false))) .nil) .nil) (.cons (.asg 2 (.lit (.int 0))) (.cons (.forr (.tup [3, 1]) (.ienum (.var 0)) (.cons (.ife (.ors (.cons (.not (.chain .le .le (.var 2) (.var 1) (.bin .add (.var 2) (.lit (.int 2))))) (.cons (.cmp .gt (.var 1) (.bin .add (.var 3) (.lit (.int 1)))) .nil))) (.cons (.ret (.lit (.bl false))) .nil) .nil) (.cons (.asg 2 (.var 1)) .nil))) (.cons (.ret (.cmp .eq (.var 2) (.b1 .len (.var 0)))) .nil))))
def F_is_row : Fn := mkFn [F_is_int] 1 4 b_is_row
def b__law_row : St := (.cons (.ret (.comp (.b1 .len (.comp (.var 2) (.one 2) (.iof (.slice (.var 0) .absent (.opt (.bin .add (.var 3) (.lit (.int 1)))))) (.opt (.cmp .isin (.var 2) (.slice (.var 1) .absent (.opt (.bin .add (.var 3) (.lit (.int 1))))))) [2])) (.one 3) (.irng1 (.b1 .len (.var 0))) .absent [3])) .nil)
def F__law_row : Fn := mkFn [] 2 4 b__law_row
def b__law_draw : St := (.cons (.asg 2 (.sub (.var 0) (.lit (.int 0)))) (.cons (.setc (.var 0) (.lit (.int 1)) (.bin .add (.sub (.var 0) (.lit (.int 1))) (.lit (.int 1)))) (.cons (.asg 3 (.bin .mod (.sub (.var 0) (.lit (.int 1))) (.b1 .len (.var 2)))) (.cons (.asg 4 (.sub (.var 2) (.var 3))) (.cons (.ife (.cmp .ge (.var 4) (.lit (.int 1000000000000000000))) (.cons (.setc (.var 2) (.var 3) (.bin .fdiv (.var 4) (.var 1))) (.cons (.ret (.bin .mod (.var 4) (.var 1))) .nil)) .nil) (.cons (.asg 5 (.bin .mod (.bin .add (.var 4) (.bin .mul (.lit (.int 104729)) (.sub (.var 0) (.lit (.int 1))))) (.lit (.int 4294967291)))) (.cons (.asg 5 (.bin .mod (.bin .pow (.var 5) (.lit (.int 5))) (.lit (.int 4294967279)))) (.cons (.ret (.bin .mod (.bin .fdiv (.bin .mod (.bin .add (.bin .mul (.bin .fdiv (.var 5) (.lit (.int 64))) (.lit (.int 69621))) (.var 5)) (.lit (.int 4294967231))) (.lit (.int 8))) (.var 1))) .nil))))))))
def F__law_draw : Fn := mkFn [] 2 6 b__law_draw
def b__law_pick : St := (.cons (.ret (.sub (.var 1) (.call 0 (.cons (.var 0) (.cons (.b1 .len (.var 1)) .nil))))) .nil)
def F__law_pick : Fn := mkFn [F__law_draw] 2 2 b__law_pick
def b__law_list : St := (.cons (.asgm 2 (.lrng (.var 1))) (.cons (.asgm 3 (.list .nil)) (.cons (.whl 100000 (.cmp .ne (.bvar 2) (.list .nil)) (.cons (.asg 4 (.ife (.cmp .eq (.call 0 (.cons (.var 0) (.cons (.lit (.int 3)) .nil))) (.lit (.int 0))) (.sub (.bvar 2) (.lit (.int 0))) (.callb 1 (.cons (.var 0) (.cons (.bvar 2) .nil))))) (.cons (.rmv 2 (.var 4)) (.cons (.app 3 (.var 4)) .nil)))) (.cons (.retm 3) .nil))))
def F__law_list : Fn := mkFn [F__law_draw, F__law_pick] 2 5 b__law_list
def b__law_start : St := (.cons (.ret (.clist (.cons (.ife (.cmp .ne (.var 0) (.list .nil)) (.clistof (.var 0)) (.clist (.cons (.lit (.int 0)) .nil))) (.cons (.lit (.int 0)) .nil)))) .nil)
def F__law_start : Fn := mkFn [] 1 1 b__law_start
def b_law_k01 : St := (.cons (.asg 1 (.call 13 (.cons (.var 0) .nil))) (.cons (.asg 2 (.bin .add (.lit (.int 1)) (.call 12 (.cons (.var 1) (.cons (.lit (.int 7)) .nil))))) (.cons (.par [3, 4] (.cons (.call 11 (.cons (.var 1) (.cons (.var 2) .nil))) (.cons (.call 11 (.cons (.var 1) (.cons (.var 2) .nil))) .nil))) (.cons (.asg 5 (.call 10 (.cons (.var 3) (.cons (.var 4) .nil)))) (.cons (.ife (.ors (.cons (.cmp .nisb (.call 9 (.cons (.var 3) .nil)) (.lit (.bl true))) (.cons (.cmp .ne (.call 7 (.cons (.var 3) (.cons (.var 4) .nil))) (.var 5)) (.cons (.cmp .nisb (.call 8 (.cons (.var 5) .nil)) (.lit (.bl true))) (.cons (.cmp .ne (.call 7 (.cons (.var 4) (.cons (.var 3) .nil))) (.var 5)) .nil))))) (.cons (.ret (.lit (.bl false))) .nil) .nil) (.cons (.asgm 6 (.list .nil)) (.cons (.asg 7 (.list .nil)) (.cons (.forr (.one 8) (.irng1 (.bin .add (.var 2) (.lit (.int 1)))) (.cons (.asg 9 (.comp (.var 10) (.one 10) (.irng1 (.var 2)) (.opt (.ands (.cons (.cmp .isin (.var 10) (.slice (.var 3) .absent (.opt (.var 8)))) (.cons (.cmp .isin (.var 10) (.slice (.var 4) .absent (.opt (.var 8)))) .nil)))) [10])) (.cons (.ife (.ors (.cons (.cmp .ne (.call 6 (.cons (.var 3) (.cons (.var 4) (.cons (.var 8) .nil)))) (.b1 .len (.var 9))) (.cons (.cmp .ne (.call 5 (.cons (.var 3) (.cons (.var 4) (.cons (.var 8) .nil)))) (.var 9)) .nil))) (.cons (.ret (.lit (.bl false))) .nil) .nil) (.cons (.asg 11 (.comp (.var 10) (.one 10) (.irng1 (.var 2)) (.opt (.ands (.cons (.cmp .isin (.var 10) (.slice (.var 3) .absent (.opt (.var 8)))) (.cons (.cmp .notin (.var 10) (.var 9)) .nil)))) [10])) (.cons (.asg 12 (.comp (.var 10) (.one 10) (.irng1 (.var 2)) (.opt (.ands (.cons (.cmp .isin (.var 10) (.slice (.var 4) .absent (.opt (.var 8)))) (.cons (.cmp .notin (.var 10) (.var 9)) .nil)))) [10])) (.cons (.ife (.ors (.cons (.cmp .ne (.call 4 (.cons (.var 3) (.cons (.var 4) (.cons (.var 8) .nil)))) (.tuple (.cons (.var 11) (.cons (.var 12) .nil)))) (.cons (.cmp .ne (.b1 .len (.var 11)) (.bin .sub (.var 8) (.b1 .len (.var 9)))) (.cons (.cmp .ne (.b1 .len (.var 12)) (.b1 .len (.var 11))) .nil)))) (.cons (.ret (.lit (.bl false))) .nil) .nil) (.cons (.ife (.cmp .gt (.var 8) (.lit (.int 0))) (.cons (.app 6 (.comp (.var 10) (.one 10) (.iof (.var 9)) (.opt (.cmp .notin (.var 10) (.var 7))) [10])) .nil) .nil) (.cons (.asg 7 (.var 9)) .nil)))))))) (.cons (.ife (.ors (.cons (.cmp .ne (.call 3 (.cons (.var 3) (.cons (.var 4) .nil))) (.bvar 6)) (.cons (.cmp .ne (.comp (.var 13) (.one 13) (.irng1 (.var 2)) (.opt (.cmp .gt (.b1 .len (.sub (.bvar 6) (.var 13))) (.lit (.int 2)))) [13]) (.list .nil)) .nil))) (.cons (.ret (.lit (.bl false))) .nil) .nil) (.cons (.forr (.one 10) (.irng1 (.var 2)) (.cons (.ife (.cmp .ne (.call 2 (.cons (.var 3) (.cons (.var 4) (.cons (.var 10) .nil)))) (.sub (.comp (.bin .add (.var 13) (.lit (.int 1))) (.one 13) (.irng1 (.var 2)) (.opt (.cmp .isin (.var 10) (.sub (.bvar 6) (.var 13)))) [13]) (.lit (.int 0)))) (.cons (.ret (.lit (.bl false))) .nil) .nil) .nil)) (.cons (.asg 14 (.b1 .sum (.comp (.bin .fdiv (.bin .mul (.sub (.var 5) (.var 13)) (.lit (.int 420))) (.bin .add (.var 13) (.lit (.int 1)))) (.one 13) (.irng1 (.var 2)) .absent [13]))) (.cons (.ret (.cmp .eq (.call 0 (.cons (.var 3) (.cons (.var 4) .nil))) (.call 1 (.cons (.var 14) (.cons (.bin .mul (.lit (.int 420)) (.var 2)) .nil))))) .nil))))))))))))
def F_law_k01 : Fn := mkFn [F_mean_overlap, F__law_low, F_meeting_depth, F_new_common, F_waiting, F_common_things, F_overlap, F_overlap_row, F_is_row, F_is_full, F__law_row, F__law_list, F__law_draw, F__law_start] 1 15 b_law_k01
def b_cheapest : St := (.cons (.exp (.call 1 (.cons (.var 0) (.cons (.var 1) .nil)))) (.cons (.ife (.not (.call 0 (.cons (.var 2) (.cons (.lit (.int 0)) (.cons (.b1 .len (.var 0)) .nil))))) (.cons (.raise 1) .nil) .nil) (.cons (.ife (.ors (.cons (.not (.call 0 (.cons (.var 3) (.cons (.lit (.int 0)) (.cons (.lit (.int 100)) .nil))))) (.cons (.not (.call 0 (.cons (.var 4) (.cons (.lit (.int 0)) (.cons (.lit (.int 100)) .nil))))) .nil))) (.cons (.raise 1) .nil) .nil) (.cons (.asg 5 (.lit .non)) (.cons (.forr (.one 6) (.irng1 (.bin .add (.b1 .len (.var 0)) (.lit (.int 1)))) (.cons (.forr (.one 7) (.irng1 (.bin .add (.b1 .len (.var 0)) (.lit (.int 1)))) (.cons (.asg 8 (.b1 .len (.comp (.var 9) (.one 9) (.iof (.slice (.var 0) .absent (.opt (.var 6)))) (.opt (.cmp .isin (.var 9) (.slice (.var 1) .absent (.opt (.var 7))))) [9]))) (.cons (.asg 10 (.bin .add (.bin .mul (.var 6) (.var 3)) (.bin .mul (.var 7) (.var 4)))) (.cons (.ife (.ands (.cons (.cmp .ge (.var 8) (.var 2)) (.cons (.ors (.cons (.isn (.var 5)) (.cons (.cmp .lt (.var 10) (.var 5)) .nil))) .nil))) (.cons (.asg 5 (.var 10)) .nil) .nil) .nil)))) .nil)) (.cons (.ret (.var 5)) .nil))))))
def F_cheapest : Fn := mkFn [F_is_int, F_check_both] 5 11 b_cheapest
def b_depth_for : St := (.cons (.exp (.call 2 (.cons (.var 0) (.cons (.var 1) .nil)))) (.cons (.ife (.not (.call 1 (.cons (.var 2) (.cons (.lit (.int 0)) (.cons (.b1 .len (.var 0)) .nil))))) (.cons (.raise 1) .nil) .nil) (.cons (.ife (.cmp .eq (.var 2) (.lit (.int 0))) (.cons (.ret (.lit (.int 0))) .nil) .nil) (.cons (.ret (.sub (.comp (.bin .add (.var 3) (.lit (.int 1))) (.tup [3, 4]) (.ienum (.call 0 (.cons (.var 0) (.cons (.var 1) .nil)))) (.opt (.cmp .ge (.var 4) (.var 2))) [3, 4]) (.lit (.int 0)))) .nil))))
def F_depth_for : Fn := mkFn [F_row_of, F_is_int, F_check_both] 3 5 b_depth_for
def b_meeting_order : St := (.cons (.exp (.call 0 (.cons (.var 0) (.cons (.var 1) .nil)))) (.cons (.asg 2 (.b1 .sorted (.comp (.tuple (.cons (.b2 .max (.meth .index (.var 0) (.var 3)) (.meth .index (.var 1) (.var 3))) (.cons (.var 3) .nil))) (.one 3) (.irng1 (.b1 .len (.var 0))) .absent [3]))) (.cons (.ret (.comp (.var 3) (.tup [4, 3]) (.iof (.var 2)) .absent [4, 3])) .nil)))
def F_meeting_order : Fn := mkFn [F_check_both] 2 5 b_meeting_order
def b__law_cheapest : St := (.cons (.asg 4 (.call 3 (.cons (.var 1) (.cons (.var 2) .nil)))) (.cons (.asg 5 (.comp (.tuple (.cons (.b2 .max (.meth .index (.var 1) (.var 6)) (.meth .index (.var 2) (.var 6))) (.cons (.var 6) .nil))) (.one 6) (.iof (.var 4)) .absent [6])) (.cons (.ife (.ors (.cons (.cmp .ne (.b1 .sorted (.var 4)) (.lrng (.var 3))) (.cons (.cmp .ne (.var 5) (.b1 .sorted (.var 5))) .nil))) (.cons (.ret (.lit (.bl false))) .nil) .nil) (.cons (.par [7, 8, 9] (.cons (.call 2 (.cons (.var 0) (.cons (.bin .add (.var 3) (.lit (.int 1))) .nil))) (.cons (.call 2 (.cons (.var 0) (.cons (.lit (.int 6)) .nil))) (.cons (.call 2 (.cons (.var 0) (.cons (.lit (.int 6)) .nil))) .nil)))) (.cons (.asgm 10 (.list .nil)) (.cons (.forr (.one 11) (.irng1 (.bin .add (.var 3) (.lit (.int 1)))) (.cons (.forr (.one 12) (.irng1 (.bin .add (.var 3) (.lit (.int 1)))) (.cons (.ife (.cmp .ge (.b1 .len (.comp (.var 6) (.one 6) (.iof (.slice (.var 1) .absent (.opt (.var 11)))) (.opt (.cmp .isin (.var 6) (.slice (.var 2) .absent (.opt (.var 12))))) [6])) (.var 7)) (.cons (.app 10 (.bin .add (.bin .mul (.var 11) (.var 8)) (.bin .mul (.var 12) (.var 9)))) .nil) .nil) .nil)) .nil)) (.cons (.asg 13 (.call 0 (.cons (.var 1) (.cons (.var 2) (.cons (.var 7) (.cons (.var 8) (.cons (.var 9) .nil))))))) (.cons (.ret (.ands (.cons (.cmp .eq (.var 13) (.b1 .min (.bvar 10))) (.cons (.cmp .le (.var 13) (.bin .mul (.call 1 (.cons (.var 1) (.cons (.var 2) (.cons (.var 7) .nil)))) (.bin .add (.var 8) (.var 9)))) (.cons (.cmp .eq (.call 0 (.cons (.var 2) (.cons (.var 1) (.cons (.var 7) (.cons (.var 9) (.cons (.var 8) .nil)))))) (.var 13)) .nil))))) .nil))))))))
def F__law_cheapest : Fn := mkFn [F_cheapest, F_depth_for, F__law_draw, F_meeting_order] 4 14 b__law_cheapest
def b_empty_depth : St := (.cons (.exp (.call 1 (.cons (.var 0) (.cons (.var 1) .nil)))) (.cons (.ret (.b1 .len (.comp (.var 2) (.one 2) (.iof (.call 0 (.cons (.var 0) (.cons (.var 1) .nil)))) (.opt (.cmp .eq (.var 2) (.lit (.int 0)))) [2]))) .nil))
def F_empty_depth : Fn := mkFn [F_row_of, F_check_both] 2 3 b_empty_depth
def b_full_depths : St := (.cons (.exp (.call 1 (.cons (.var 0) (.cons (.var 1) .nil)))) (.cons (.ret (.comp (.bin .add (.var 2) (.lit (.int 1))) (.tup [2, 3]) (.ienum (.call 0 (.cons (.var 0) (.cons (.var 1) .nil)))) (.opt (.cmp .eq (.var 3) (.bin .add (.var 2) (.lit (.int 1))))) [2, 3])) .nil))
def F_full_depths : Fn := mkFn [F_row_of, F_check_both] 2 4 b_full_depths
def b_check_things : St := (.cons (.ife (.ors (.cons (.not (.isI .list (.var 1))) (.cons (.not (.b1 .all (.comp (.call 0 (.cons (.var 2) (.cons (.lit (.int 0)) (.cons (.bin .sub (.b1 .len (.var 0)) (.lit (.int 1))) .nil)))) (.one 2) (.iof (.var 1)) .absent [2]))) .nil))) (.cons (.raise 1) .nil) .nil) .nil)
def F_check_things : Fn := mkFn [F_is_int] 2 3 b_check_things
def b_depth_for_any : St := (.cons (.exp (.call 1 (.cons (.var 0) (.cons (.var 1) .nil)))) (.cons (.exp (.call 0 (.cons (.var 0) (.cons (.var 2) .nil)))) (.cons (.ife (.cmp .eq (.var 2) (.list .nil)) (.cons (.raise 5) .nil) .nil) (.cons (.ret (.b1 .min (.comp (.bin .add (.lit (.int 1)) (.b2 .max (.meth .index (.var 0) (.var 3)) (.meth .index (.var 1) (.var 3)))) (.one 3) (.iof (.var 2)) .absent [3]))) .nil))))
def F_depth_for_any : Fn := mkFn [F_check_things, F_check_both] 3 4 b_depth_for_any
def b_depth_for_all : St := (.cons (.exp (.call 1 (.cons (.var 0) (.cons (.var 1) .nil)))) (.cons (.exp (.call 0 (.cons (.var 0) (.cons (.var 2) .nil)))) (.cons (.ret (.b1 .max (.bin .add (.list (.cons (.lit (.int 0)) .nil)) (.comp (.bin .add (.lit (.int 1)) (.b2 .max (.meth .index (.var 0) (.var 3)) (.meth .index (.var 1) (.var 3)))) (.one 3) (.iof (.var 2)) .absent [3])))) .nil)))
def F_depth_for_all : Fn := mkFn [F_check_things, F_check_both] 3 4 b_depth_for_all
def b_law_k05 : St := (.cons (.asg 1 (.call 9 (.cons (.var 0) .nil))) (.cons (.asg 2 (.bin .add (.lit (.int 1)) (.call 5 (.cons (.var 1) (.cons (.lit (.int 7)) .nil))))) (.cons (.par [3, 4] (.cons (.call 8 (.cons (.var 1) (.cons (.var 2) .nil))) (.cons (.call 8 (.cons (.var 1) (.cons (.var 2) .nil))) .nil))) (.cons (.asg 5 (.bin .add (.list (.cons (.lit (.int 0)) .nil)) (.call 7 (.cons (.var 3) (.cons (.var 4) .nil))))) (.cons (.forr (.one 6) (.irng1 (.bin .add (.var 2) (.lit (.int 1)))) (.cons (.ife (.cmp .ne (.call 6 (.cons (.var 3) (.cons (.var 4) (.cons (.var 6) .nil)))) (.sub (.comp (.var 7) (.one 7) (.irng1 (.bin .add (.var 2) (.lit (.int 1)))) (.opt (.cmp .ge (.sub (.var 5) (.var 7)) (.var 6))) [7]) (.lit (.int 0)))) (.cons (.ret (.lit (.bl false))) .nil) .nil) .nil)) (.cons (.asg 8 (.comp (.call 5 (.cons (.var 1) (.cons (.var 2) .nil))) (.one 7) (.irng1 (.call 5 (.cons (.var 1) (.cons (.lit (.int 4)) .nil)))) .absent [7])) (.cons (.asgm 9 (.list .nil)) (.cons (.forr (.one 10) (.irng1 (.bin .add (.var 2) (.lit (.int 1)))) (.cons (.asg 11 (.comp (.var 12) (.one 12) (.iof (.slice (.var 3) .absent (.opt (.var 10)))) (.opt (.cmp .isin (.var 12) (.slice (.var 4) .absent (.opt (.var 10))))) [12])) (.cons (.app 9 (.comp (.var 12) (.one 12) (.iof (.var 8)) (.opt (.cmp .isin (.var 12) (.var 11))) [12])) .nil))) (.cons (.ife (.cmp .ne (.call 4 (.cons (.var 3) (.cons (.var 4) (.cons (.var 8) .nil)))) (.sub (.comp (.var 7) (.one 7) (.irng1 (.bin .add (.var 2) (.lit (.int 1)))) (.opt (.cmp .eq (.b1 .len (.sub (.bvar 9) (.var 7))) (.b1 .len (.var 8)))) [7]) (.lit (.int 0)))) (.cons (.ret (.lit (.bl false))) .nil) .nil) (.cons (.asg 13 (.comp (.var 7) (.one 7) (.irng1 (.bin .add (.var 2) (.lit (.int 1)))) (.opt (.cmp .ne (.sub (.bvar 9) (.var 7)) (.list .nil))) [7])) (.cons (.ife (.ands (.cons (.cmp .ne (.var 8) (.list .nil)) (.cons (.cmp .ne (.call 3 (.cons (.var 3) (.cons (.var 4) (.cons (.var 8) .nil)))) (.sub (.var 13) (.lit (.int 0)))) .nil))) (.cons (.ret (.lit (.bl false))) .nil) .nil) (.cons (.ife (.ors (.cons (.cmp .ne (.call 2 (.cons (.var 3) (.cons (.var 4) .nil))) (.comp (.var 7) (.one 7) (.irng2 (.lit (.int 1)) (.bin .add (.var 2) (.lit (.int 1)))) (.opt (.cmp .eq (.sub (.var 5) (.var 7)) (.var 7))) [7])) (.cons (.cmp .ne (.call 1 (.cons (.var 3) (.cons (.var 4) .nil))) (.b1 .max (.comp (.var 7) (.one 7) (.irng1 (.bin .add (.var 2) (.lit (.int 1)))) (.opt (.cmp .eq (.sub (.var 5) (.var 7)) (.lit (.int 0)))) [7]))) .nil))) (.cons (.ret (.lit (.bl false))) .nil) .nil) (.cons (.ret (.call 0 (.cons (.var 1) (.cons (.var 3) (.cons (.var 4) (.cons (.var 2) .nil)))))) .nil)))))))))))))
def F_law_k05 : Fn := mkFn [F__law_cheapest, F_empty_depth, F_full_depths, F_depth_for_any, F_depth_for_all, F__law_draw, F_depth_for, F__law_row, F__law_list, F__law_start] 1 14 b_law_k05
def b_is_known : St := (.cons (.ret (.ors (.cons (.cmp .isin (.var 1) (.var 0)) (.cons (.cmp .isin (.var 2) (.var 0)) .nil)))) .nil)
def F_is_known : Fn := mkFn [] 3 3 b_is_known
def b_is_ahead : St := (.cons (.ife (.ands (.cons (.cmp .isin (.var 1) (.var 0)) (.cons (.cmp .isin (.var 2) (.var 0)) .nil))) (.cons (.ret (.cmp .lt (.meth .index (.var 0) (.var 1)) (.meth .index (.var 0) (.var 2)))) .nil) .nil) (.cons (.ret (.cmp .isin (.var 1) (.var 0))) .nil))
def F_is_ahead : Fn := mkFn [] 3 3 b_is_ahead
def b_is_short : St := (.cons (.ife (.ors (.cons (.not (.isI .list (.var 0))) (.cons (.not (.chain .le .le (.lit (.int 1)) (.b1 .len (.var 0)) (.lit (.int 6)))) .nil))) (.cons (.ret (.lit (.bl false))) .nil) .nil) (.cons (.ife (.not (.b1 .all (.comp (.ands (.cons (.isI .str (.var 1)) (.cons (.cmp .eq (.b1 .len (.var 1)) (.lit (.int 1))) (.cons (.cmp .isin (.var 1) (.gcon "LETTERS" (.str "abcdefghij"))) .nil)))) (.one 1) (.iof (.var 0)) .absent [1]))) (.cons (.ret (.lit (.bl false))) .nil) .nil) (.cons (.ret (.cmp .eq (.b1 .lenset (.var 0)) (.b1 .len (.var 0)))) .nil)))
def F_is_short : Fn := mkFn [] 1 2 b_is_short
def b_check_short : St := (.cons (.ife (.not (.call 0 (.cons (.var 0) .nil))) (.cons (.raise 3) .nil) .nil) .nil)
def F_check_short : Fn := mkFn [F_is_short] 1 1 b_check_short
def b_sure_order : St := (.cons (.ife (.ors (.cons (.not (.isI .list (.var 0))) (.cons (.not (.chain .le .le (.lit (.int 1)) (.b1 .len (.var 0)) (.lit (.int 6)))) .nil))) (.cons (.raise 3) .nil) .nil) (.cons (.forr (.one 3) (.iof (.var 0)) (.cons (.exp (.call 3 (.cons (.var 3) .nil))) .nil)) (.cons (.ife (.not (.call 2 (.cons (.list (.cons (.var 1) (.cons (.var 2) .nil))) .nil))) (.cons (.raise 3) .nil) .nil) (.cons (.asg 4 (.comp (.call 1 (.cons (.var 3) (.cons (.var 1) (.cons (.var 2) .nil)))) (.one 3) (.iof (.var 0)) (.opt (.call 0 (.cons (.var 3) (.cons (.var 1) (.cons (.var 2) .nil))))) [3])) (.cons (.ife (.ors (.cons (.cmp .eq (.var 4) (.list .nil)) (.cons (.ands (.cons (.cmp .isin (.lit (.bl true)) (.var 4)) (.cons (.cmp .isin (.lit (.bl false)) (.var 4)) .nil))) .nil))) (.cons (.ret (.lit (.str "unknown"))) .nil) .nil) (.cons (.ret (.ife (.sub (.var 4) (.lit (.int 0))) (.lit (.str "ahead")) (.lit (.str "behind")))) .nil))))))
def F_sure_order : Fn := mkFn [F_is_known, F_is_ahead, F_is_short, F_check_short] 3 5 b_sure_order
def b_letters_of : St := (.cons (.ret (.comp (.var 1) (.one 1) (.istr (.gcon "LETTERS" (.str "abcdefghij"))) (.opt (.b1 .any (.comp (.cmp .isin (.var 1) (.var 2)) (.one 2) (.iof (.var 0)) .absent [2]))) [1])) .nil)
def F_letters_of : Fn := mkFn [] 1 3 b_letters_of
def b_place_in : St := (.cons (.ret (.ife (.cmp .isin (.var 1) (.var 0)) (.bin .add (.lit (.int 1)) (.meth .index (.var 0) (.var 1))) (.bin .add (.b1 .len (.var 0)) (.lit (.int 1))))) .nil)
def F_place_in : Fn := mkFn [] 2 2 b_place_in
def b_check_lists : St := (.cons (.ife (.ors (.cons (.not (.isI .list (.var 0))) (.cons (.not (.chain .le .le (.lit (.int 1)) (.b1 .len (.var 0)) (.lit (.int 6)))) .nil))) (.cons (.raise 3) .nil) .nil) (.cons (.forr (.one 1) (.iof (.var 0)) (.cons (.exp (.call 0 (.cons (.var 1) .nil))) .nil)) .nil))
def F_check_lists : Fn := mkFn [F_check_short] 1 2 b_check_lists
def b_unbeaten : St := (.cons (.exp (.call 2 (.cons (.var 0) .nil))) (.cons (.asgm 1 (.list .nil)) (.cons (.forr (.one 2) (.iof (.call 0 (.cons (.var 0) .nil))) (.cons (.asg 3 (.lit (.bl false))) (.cons (.forr (.one 4) (.iof (.call 0 (.cons (.var 0) .nil))) (.cons (.asg 5 (.b1 .len (.comp (.lit (.int 1)) (.one 6) (.iof (.var 0)) (.opt (.cmp .lt (.call 1 (.cons (.var 6) (.cons (.var 4) .nil))) (.call 1 (.cons (.var 6) (.cons (.var 2) .nil))))) [6]))) (.cons (.asg 7 (.b1 .len (.comp (.lit (.int 1)) (.one 6) (.iof (.var 0)) (.opt (.cmp .lt (.call 1 (.cons (.var 6) (.cons (.var 2) .nil))) (.call 1 (.cons (.var 6) (.cons (.var 4) .nil))))) [6]))) (.cons (.asg 3 (.ors (.cons (.var 3) (.cons (.cmp .gt (.var 5) (.var 7)) .nil)))) .nil)))) (.cons (.ife (.not (.var 3)) (.cons (.app 1 (.var 2)) .nil) .nil) .nil)))) (.cons (.retm 1) .nil))))
def F_unbeaten : Fn := mkFn [F_letters_of, F_place_in, F_check_lists] 1 8 b_unbeaten
def b_beats : St := (.cons (.exp (.call 2 (.cons (.var 0) .nil))) (.cons (.ife (.ors (.cons (.cmp .eq (.var 1) (.var 2)) (.cons (.cmp .notin (.var 1) (.call 1 (.cons (.var 0) .nil))) (.cons (.cmp .notin (.var 2) (.call 1 (.cons (.var 0) .nil))) .nil)))) (.cons (.raise 3) .nil) .nil) (.cons (.asg 3 (.b1 .len (.comp (.lit (.int 1)) (.one 4) (.iof (.var 0)) (.opt (.cmp .lt (.call 0 (.cons (.var 4) (.cons (.var 1) .nil))) (.call 0 (.cons (.var 4) (.cons (.var 2) .nil))))) [4]))) (.cons (.ret (.tuple (.cons (.var 3) (.cons (.b1 .len (.comp (.lit (.int 1)) (.one 4) (.iof (.var 0)) (.opt (.cmp .lt (.call 0 (.cons (.var 4) (.cons (.var 2) .nil))) (.call 0 (.cons (.var 4) (.cons (.var 1) .nil))))) [4])) .nil)))) .nil))))
def F_beats : Fn := mkFn [F_place_in, F_letters_of, F_check_lists] 3 5 b_beats
def b__law_place : St := (.cons (.ret (.ife (.cmp .isin (.var 1) (.var 0)) (.bin .add (.meth .index (.var 0) (.var 1)) (.lit (.int 1))) (.bin .add (.b1 .len (.var 0)) (.lit (.int 1))))) .nil)
def F__law_place : Fn := mkFn [] 2 2 b__law_place
def b__law_short : St := (.cons (.asgm 2 (.b1 .list (.slice (.lit (.str "abcdefghij")) .absent (.opt (.var 1))))) (.cons (.asgm 3 (.list .nil)) (.cons (.forr (.one 4) (.irng1 (.bin .add (.lit (.int 1)) (.call 0 (.cons (.var 0) (.cons (.b2 .min (.lit (.int 6)) (.var 1)) .nil))))) (.cons (.app 3 (.callb 1 (.cons (.var 0) (.cons (.bvar 2) .nil)))) (.cons (.rmv 2 (.sub (.bvar 3) (.neg (.lit (.int 1))))) .nil))) (.cons (.retm 3) .nil))))
def F__law_short : Fn := mkFn [F__law_draw, F__law_pick] 2 5 b__law_short
def b_law_k09 : St := (.cons (.asg 1 (.call 6 (.cons (.var 0) .nil))) (.cons (.asg 2 (.bin .add (.lit (.int 2)) (.call 4 (.cons (.var 1) (.cons (.lit (.int 9)) .nil))))) (.cons (.asg 3 (.comp (.call 5 (.cons (.var 1) (.cons (.var 2) .nil))) (.one 4) (.irng1 (.bin .add (.lit (.int 1)) (.call 4 (.cons (.var 1) (.cons (.lit (.int 6)) .nil))))) .absent [4])) (.cons (.asg 5 (.comp (.var 6) (.one 6) (.istr (.lit (.str "abcdefghij"))) (.opt (.cmp .ne (.comp (.var 7) (.one 7) (.iof (.var 3)) (.opt (.cmp .isin (.var 6) (.var 7))) [7]) (.list .nil))) [6])) (.cons (.asgm 8 (.list .nil)) (.cons (.forr (.one 6) (.iof (.var 5)) (.cons (.asg 9 (.lit (.bl false))) (.cons (.forr (.one 10) (.iof (.var 5)) (.cons (.asg 11 (.b1 .len (.comp (.var 7) (.one 7) (.iof (.var 3)) (.opt (.cmp .lt (.call 3 (.cons (.var 7) (.cons (.var 6) .nil))) (.call 3 (.cons (.var 7) (.cons (.var 10) .nil))))) [7]))) (.cons (.asg 12 (.b1 .len (.comp (.var 7) (.one 7) (.iof (.var 3)) (.opt (.cmp .lt (.call 3 (.cons (.var 7) (.cons (.var 10) .nil))) (.call 3 (.cons (.var 7) (.cons (.var 6) .nil))))) [7]))) (.cons (.ife (.ands (.cons (.cmp .ne (.var 10) (.var 6)) (.cons (.ors (.cons (.cmp .ne (.call 2 (.cons (.var 3) (.cons (.var 6) (.cons (.var 10) .nil)))) (.tuple (.cons (.var 11) (.cons (.var 12) .nil)))) (.cons (.cmp .ne (.call 2 (.cons (.var 3) (.cons (.var 10) (.cons (.var 6) .nil)))) (.tuple (.cons (.var 12) (.cons (.var 11) .nil)))) .nil))) .nil))) (.cons (.ret (.lit (.bl false))) .nil) .nil) (.cons (.ife (.cmp .gt (.var 12) (.var 11)) (.cons (.asg 9 (.lit (.bl true))) .nil) .nil) (.cons (.ife (.cmp .ne (.var 10) (.var 6)) (.cons (.asg 13 (.lit (.str "unknown"))) (.cons (.ife (.ands (.cons (.cmp .gt (.bin .add (.var 11) (.var 12)) (.lit (.int 0))) (.cons (.ors (.cons (.cmp .eq (.var 11) (.lit (.int 0))) (.cons (.cmp .eq (.var 12) (.lit (.int 0))) .nil))) .nil))) (.cons (.asg 13 (.ife (.cmp .eq (.var 12) (.lit (.int 0))) (.lit (.str "ahead")) (.lit (.str "behind")))) .nil) .nil) (.cons (.ife (.cmp .ne (.call 0 (.cons (.var 3) (.cons (.var 6) (.cons (.var 10) .nil)))) (.var 13)) (.cons (.ret (.lit (.bl false))) .nil) .nil) .nil))) .nil) .nil)))))) (.cons (.ife (.not (.var 9)) (.cons (.app 8 (.var 6)) .nil) .nil) .nil)))) (.cons (.ife (.cmp .ne (.call 1 (.cons (.var 3) .nil)) (.bvar 8)) (.cons (.ret (.lit (.bl false))) .nil) .nil) (.cons (.asg 7 (.sub (.var 3) (.lit (.int 0)))) (.cons (.ret (.ands (.cons (.cmp .eq (.call 1 (.cons (.list (.cons (.var 7) .nil)) .nil)) (.list (.cons (.sub (.var 7) (.lit (.int 0))) .nil))) (.cons (.cmp .eq (.call 0 (.cons (.list (.cons (.var 7) .nil)) (.cons (.sub (.var 7) (.lit (.int 0))) (.cons (.sub (.comp (.var 10) (.one 10) (.istr (.lit (.str "abcdefghij"))) (.opt (.cmp .ne (.var 10) (.sub (.var 7) (.lit (.int 0))))) [10]) (.lit (.int 0))) .nil)))) (.lit (.str "ahead"))) .nil)))) .nil)))))))))
def F_law_k09 : Fn := mkFn [F_sure_order, F_unbeaten, F_beats, F__law_place, F__law_draw, F__law_short, F__law_start] 1 14 b_law_k09
def b_moved : St := (.cons (.exp (.call 1 (.cons (.var 0) .nil))) (.cons (.ife (.ors (.cons (.not (.call 0 (.cons (.var 1) (.cons (.lit (.int 0)) (.cons (.bin .sub (.b1 .len (.var 0)) (.lit (.int 1))) .nil))))) (.cons (.not (.call 0 (.cons (.var 2) (.cons (.lit (.int 0)) (.cons (.bin .sub (.b1 .len (.var 0)) (.lit (.int 1))) .nil))))) .nil))) (.cons (.raise 1) .nil) .nil) (.cons (.asg 3 (.comp (.var 4) (.one 4) (.iof (.var 0)) (.opt (.cmp .ne (.var 4) (.var 1))) [4])) (.cons (.ret (.bin .add (.bin .add (.slice (.var 3) .absent (.opt (.var 2))) (.list (.cons (.var 1) .nil))) (.slice (.var 3) (.opt (.var 2)) .absent))) .nil))))
def F_moved : Fn := mkFn [F_is_int, F_check_full] 3 5 b_moved
def b_without_thing : St := (.cons (.exp (.call 1 (.cons (.var 0) .nil))) (.cons (.ife (.ors (.cons (.not (.call 0 (.cons (.var 1) (.cons (.lit (.int 0)) (.cons (.bin .sub (.b1 .len (.var 0)) (.lit (.int 1))) .nil))))) (.cons (.cmp .eq (.b1 .len (.var 0)) (.lit (.int 1))) .nil))) (.cons (.raise 1) .nil) .nil) (.cons (.ret (.comp (.ife (.cmp .gt (.var 2) (.var 1)) (.bin .sub (.var 2) (.lit (.int 1))) (.var 2)) (.one 2) (.iof (.var 0)) (.opt (.cmp .ne (.var 2) (.var 1))) [2])) .nil)))
def F_without_thing : Fn := mkFn [F_is_int, F_check_full] 2 3 b_without_thing
def b_exchanged : St := (.cons (.exp (.call 1 (.cons (.var 0) .nil))) (.cons (.ife (.not (.call 0 (.cons (.var 1) (.cons (.lit (.int 0)) (.cons (.bin .sub (.b1 .len (.var 0)) (.lit (.int 2))) .nil))))) (.cons (.raise 1) .nil) .nil) (.cons (.ret (.bin .add (.bin .add (.slice (.var 0) .absent (.opt (.var 1))) (.list (.cons (.sub (.var 0) (.bin .add (.var 1) (.lit (.int 1)))) (.cons (.sub (.var 0) (.var 1)) .nil)))) (.slice (.var 0) (.opt (.bin .add (.var 1) (.lit (.int 2)))) .absent))) .nil)))
def F_exchanged : Fn := mkFn [F_is_int, F_check_full] 2 2 b_exchanged
def b__law_single_k10 : St := (.cons (.ife (.cmp .gt (.var 4) (.lit (.int 1))) (.cons (.asg 5 (.call 1 (.cons (.var 0) (.cons (.bin .sub (.var 4) (.lit (.int 1))) .nil)))) (.cons (.asg 6 (.call 4 (.cons (.var 2) (.cons (.var 5) .nil)))) (.cons (.ife (.cmp .ne (.var 6) (.bin .add (.bin .add (.slice (.var 2) .absent (.opt (.var 5))) (.list (.cons (.sub (.var 2) (.bin .add (.var 5) (.lit (.int 1)))) (.cons (.sub (.var 2) (.var 5)) .nil)))) (.slice (.var 2) (.opt (.bin .add (.var 5) (.lit (.int 2)))) .absent))) (.cons (.ret (.lit (.bl false))) .nil) .nil) (.cons (.ife (.cmp .ne (.call 4 (.cons (.var 6) (.cons (.var 5) .nil))) (.var 2)) (.cons (.ret (.lit (.bl false))) .nil) .nil) (.cons (.asg 7 (.comp (.bin .sub (.var 8) (.var 9)) (.tup [8, 9]) (.izip (.call 3 (.cons (.var 1) (.cons (.var 6) .nil))) (.var 3)) .absent [8, 9])) (.cons (.ife (.ors (.cons (.cmp .ne (.comp (.var 10) (.one 10) (.irng1 (.var 4)) (.opt (.ands (.cons (.cmp .ne (.sub (.var 7) (.var 10)) (.lit (.int 0))) (.cons (.cmp .ne (.var 10) (.var 5)) .nil)))) [10]) (.list .nil)) (.cons (.cmp .gt (.b1 .abs (.sub (.var 7) (.var 5))) (.lit (.int 1))) .nil))) (.cons (.ret (.lit (.bl false))) .nil) .nil) (.cons (.asg 11 (.call 1 (.cons (.var 0) (.cons (.var 4) .nil)))) (.cons (.ife (.cmp .ne (.call 2 (.cons (.var 1) (.cons (.var 11) .nil))) (.comp (.bin .sub (.var 12) (.ife (.cmp .gt (.var 12) (.var 11)) (.lit (.int 1)) (.lit (.int 0)))) (.one 12) (.iof (.var 1)) (.opt (.cmp .ne (.var 12) (.var 11))) [12])) (.cons (.ret (.lit (.bl false))) .nil) .nil) .nil)))))))) .nil) (.cons (.par [11, 13] (.cons (.call 1 (.cons (.var 0) (.cons (.var 4) .nil))) (.cons (.call 1 (.cons (.var 0) (.cons (.var 4) .nil))) .nil))) (.cons (.asg 14 (.call 0 (.cons (.var 1) (.cons (.var 11) (.cons (.var 13) .nil))))) (.cons (.asg 15 (.comp (.var 12) (.one 12) (.iof (.var 1)) (.opt (.cmp .ne (.var 12) (.var 11))) [12])) (.cons (.ret (.ands (.cons (.cmp .eq (.sub (.var 14) (.var 13)) (.var 11)) (.cons (.cmp .eq (.comp (.var 12) (.one 12) (.iof (.var 14)) (.opt (.cmp .ne (.var 12) (.var 11))) [12]) (.var 15)) .nil)))) .nil)))))
def F__law_single_k10 : Fn := mkFn [F_moved, F__law_draw, F_without_thing, F_overlap_row, F_exchanged] 5 16 b__law_single_k10
def b_backward : St := (.cons (.exp (.call 0 (.cons (.var 0) .nil))) (.cons (.ret (.rev (.var 0))) .nil))
def F_backward : Fn := mkFn [F_check_full] 1 1 b_backward
def b_seen_from : St := (.cons (.exp (.call 0 (.cons (.var 0) (.cons (.var 1) .nil)))) (.cons (.ret (.comp (.meth .index (.var 0) (.var 2)) (.one 2) (.iof (.var 1)) .absent [2])) .nil))
def F_seen_from : Fn := mkFn [F_check_both] 2 3 b_seen_from
def b_places : St := (.cons (.exp (.call 0 (.cons (.var 0) .nil))) (.cons (.ret (.comp (.meth .index (.var 0) (.var 1)) (.one 1) (.irng1 (.b1 .len (.var 0))) .absent [1])) .nil))
def F_places : Fn := mkFn [F_check_full] 1 2 b_places
def b_better : St := (.cons (.ret (.bin .add (.lit (.int 1)) (.b2 .min (.meth .index (.var 0) (.var 2)) (.meth .index (.var 1) (.var 2))))) .nil)
def F_better : Fn := mkFn [] 3 3 b_better
def b_ways : St := (.cons (.asg 2 (.b1 .sorted (.comp (.b2 .min (.b1 .len (.var 0)) (.bin .mul (.lit (.int 2)) (.call 0 (.cons (.var 0) (.cons (.var 1) (.cons (.var 3) .nil)))))) (.one 3) (.irng1 (.b1 .len (.var 0))) .absent [3]))) (.cons (.asg 4 (.lit (.int 1))) (.cons (.forr (.tup [5, 6]) (.ienum (.var 2)) (.cons (.aug 4 .mul (.bin .sub (.var 6) (.var 5))) .nil)) (.cons (.ret (.var 4)) .nil))))
def F_ways : Fn := mkFn [F_better] 2 7 b_ways
def b_count_fair : St := (.cons (.exp (.call 1 (.cons (.var 0) (.cons (.var 1) .nil)))) (.cons (.ret (.call 0 (.cons (.var 0) (.cons (.var 1) .nil)))) .nil))
def F_count_fair : Fn := mkFn [F_ways, F_check_both] 2 2 b_count_fair
def b_renamed : St := (.cons (.exp (.call 0 (.cons (.var 0) (.cons (.var 1) .nil)))) (.cons (.ret (.comp (.sub (.var 1) (.var 2)) (.one 2) (.iof (.var 0)) .absent [2])) .nil))
def F_renamed : Fn := mkFn [F_check_both] 2 3 b_renamed
def b_law_k10 : St := (.cons (.asg 1 (.call 10 (.cons (.var 0) .nil))) (.cons (.asg 2 (.bin .add (.lit (.int 1)) (.call 9 (.cons (.var 1) (.cons (.lit (.int 7)) .nil))))) (.cons (.par [3, 4, 5] (.cons (.call 8 (.cons (.var 1) (.cons (.var 2) .nil))) (.cons (.call 8 (.cons (.var 1) (.cons (.var 2) .nil))) (.cons (.call 8 (.cons (.var 1) (.cons (.var 2) .nil))) .nil)))) (.cons (.asg 6 (.call 7 (.cons (.var 3) (.cons (.var 4) .nil)))) (.cons (.par [7, 8] (.cons (.call 6 (.cons (.var 3) (.cons (.var 5) .nil))) (.cons (.call 6 (.cons (.var 4) (.cons (.var 5) .nil))) .nil))) (.cons (.ife (.ors (.cons (.cmp .ne (.var 7) (.comp (.sub (.var 5) (.var 9)) (.one 9) (.iof (.var 3)) .absent [9])) (.cons (.cmp .ne (.call 1 (.cons (.var 7) (.cons (.var 8) .nil))) (.var 6)) (.cons (.cmp .ne (.call 5 (.cons (.var 7) (.cons (.var 8) .nil))) (.call 5 (.cons (.var 3) (.cons (.var 4) .nil)))) .nil)))) (.cons (.ret (.lit (.bl false))) .nil) .nil) (.cons (.asg 10 (.call 4 (.cons (.var 3) .nil))) (.cons (.ife (.ors (.cons (.cmp .ne (.comp (.sub (.var 3) (.var 11)) (.one 11) (.iof (.var 10)) .absent [11]) (.lrng (.var 2))) (.cons (.cmp .ne (.call 3 (.cons (.var 3) (.cons (.var 4) .nil))) (.comp (.sub (.var 10) (.var 9)) (.one 9) (.iof (.var 4)) .absent [9])) .nil))) (.cons (.ret (.lit (.bl false))) .nil) .nil) (.cons (.ife (.ors (.cons (.cmp .ne (.call 1 (.cons (.lrng (.var 2)) (.cons (.call 3 (.cons (.var 3) (.cons (.var 4) .nil))) .nil))) (.var 6)) (.cons (.cmp .ne (.call 3 (.cons (.var 3) (.cons (.var 3) .nil))) (.lrng (.var 2))) .nil))) (.cons (.ret (.lit (.bl false))) .nil) .nil) (.cons (.asg 12 (.call 2 (.cons (.var 3) .nil))) (.cons (.asg 13 (.bin .add (.comp (.bin .add (.bin .sub (.bin .mul (.lit (.int 2)) (.var 14)) (.var 2)) (.sub (.var 6) (.bin .sub (.bin .sub (.var 2) (.var 14)) (.lit (.int 1))))) (.one 14) (.irng2 (.lit (.int 1)) (.var 2)) .absent [14]) (.list (.cons (.var 2) .nil)))) (.cons (.ife (.ors (.cons (.cmp .ne (.var 12) (.rev (.var 3))) (.cons (.cmp .ne (.call 1 (.cons (.var 12) (.cons (.call 2 (.cons (.var 4) .nil)) .nil))) (.var 13)) .nil))) (.cons (.ret (.lit (.bl false))) .nil) .nil) (.cons (.ret (.call 0 (.cons (.var 1) (.cons (.var 3) (.cons (.var 4) (.cons (.var 6) (.cons (.var 2) .nil))))))) .nil)))))))))))))
def F_law_k10 : Fn := mkFn [F__law_single_k10, F_overlap_row, F_backward, F_seen_from, F_places, F_count_fair, F_renamed, F__law_row, F__law_list, F__law_draw, F__law_start] 1 15 b_law_k10
def b_by_best_place : St := (.cons (.exp (.call 2 (.cons (.var 0) .nil))) (.cons (.asg 1 (.comp (.tuple (.cons (.b1 .min (.comp (.call 1 (.cons (.var 2) (.cons (.var 3) .nil))) (.one 2) (.iof (.var 0)) (.opt (.cmp .isin (.var 3) (.var 2))) [2])) (.cons (.var 3) .nil))) (.one 3) (.iof (.call 0 (.cons (.var 0) .nil))) .absent [3])) (.cons (.ret (.comp (.var 3) (.tup [4, 3]) (.iof (.b1 .sorted (.var 1))) .absent [4, 3])) .nil)))
def F_by_best_place : Fn := mkFn [F_letters_of, F_place_in, F_check_lists] 1 5 b_by_best_place
def b_by_sum : St := (.cons (.exp (.call 2 (.cons (.var 0) .nil))) (.cons (.asg 1 (.comp (.tuple (.cons (.b1 .sum (.comp (.call 1 (.cons (.var 2) (.cons (.var 3) .nil))) (.one 2) (.iof (.var 0)) .absent [2])) (.cons (.var 3) .nil))) (.one 3) (.iof (.call 0 (.cons (.var 0) .nil))) .absent [3])) (.cons (.ret (.comp (.var 3) (.tup [4, 3]) (.iof (.b1 .sorted (.var 1))) .absent [4, 3])) .nil)))
def F_by_sum : Fn := mkFn [F_letters_of, F_place_in, F_check_lists] 1 5 b_by_sum
def b_by_votes : St := (.cons (.exp (.call 2 (.cons (.var 0) .nil))) (.cons (.asgm 1 (.list .nil)) (.cons (.forr (.one 2) (.iof (.call 0 (.cons (.var 0) .nil))) (.cons (.asg 3 (.b1 .len (.comp (.var 4) (.one 4) (.iof (.var 0)) (.opt (.cmp .isin (.var 2) (.var 4))) [4]))) (.cons (.app 1 (.tuple (.cons (.neg (.var 3)) (.cons (.b1 .sum (.comp (.call 1 (.cons (.var 4) (.cons (.var 2) .nil))) (.one 4) (.iof (.var 0)) .absent [4])) (.cons (.var 2) .nil))))) .nil))) (.cons (.ret (.comp (.var 2) (.tup [3, 5, 2]) (.iof (.b1 .sorted (.bvar 1))) .absent [3, 5, 2])) .nil))))
def F_by_votes : Fn := mkFn [F_letters_of, F_place_in, F_check_lists] 1 6 b_by_votes
def b_turns : St := (.cons (.exp (.call 0 (.cons (.var 0) .nil))) (.cons (.asgm 1 (.list .nil)) (.cons (.forr (.one 2) (.irng1 (.lit (.int 6))) (.cons (.forr (.one 3) (.iof (.var 0)) (.cons (.ife (.ands (.cons (.cmp .lt (.var 2) (.b1 .len (.var 3))) (.cons (.cmp .notin (.sub (.var 3) (.var 2)) (.bvar 1)) .nil))) (.cons (.app 1 (.sub (.var 3) (.var 2))) .nil) .nil) .nil)) .nil)) (.cons (.retm 1) .nil))))
def F_turns : Fn := mkFn [F_check_lists] 1 4 b_turns
def b_place_sums : St := (.cons (.exp (.call 2 (.cons (.var 0) .nil))) (.cons (.ret (.comp (.tuple (.cons (.var 2) (.cons (.b1 .sum (.comp (.call 1 (.cons (.var 1) (.cons (.var 2) .nil))) (.one 1) (.iof (.var 0)) .absent [1])) .nil))) (.one 2) (.iof (.call 0 (.cons (.var 0) .nil))) .absent [2])) .nil))
def F_place_sums : Fn := mkFn [F_letters_of, F_place_in, F_check_lists] 1 3 b_place_sums
def b_law_k20 : St := (.cons (.asg 1 (.call 9 (.cons (.var 0) .nil))) (.cons (.asg 2 (.bin .add (.lit (.int 2)) (.call 7 (.cons (.var 1) (.cons (.lit (.int 9)) .nil))))) (.cons (.asg 3 (.comp (.call 8 (.cons (.var 1) (.cons (.var 2) .nil))) (.one 4) (.irng1 (.bin .add (.lit (.int 1)) (.call 7 (.cons (.var 1) (.cons (.lit (.int 6)) .nil))))) .absent [4])) (.cons (.asg 5 (.call 6 (.cons (.var 3) .nil))) (.cons (.asg 6 (.comp (.var 7) (.tup [7, 8]) (.iof (.var 5)) .absent [7, 8])) (.cons (.forr (.tup [7, 8]) (.iof (.var 5)) (.cons (.asg 9 (.lit (.int 0))) (.cons (.forr (.one 10) (.iof (.var 3)) (.cons (.asg 11 (.ife (.cmp .isin (.var 7) (.var 10)) (.meth .index (.var 10) (.var 7)) (.b1 .len (.var 10)))) (.cons (.asg 9 (.bin .add (.var 9) (.var 11))) .nil))) (.cons (.asg 12 (.b1 .sum (.comp (.sub (.call 5 (.cons (.var 3) (.cons (.var 13) (.cons (.var 7) .nil)))) (.lit (.int 0))) (.one 13) (.iof (.var 6)) (.opt (.cmp .ne (.var 13) (.var 7))) [13]))) (.cons (.ife (.ors (.cons (.cmp .ne (.var 8) (.bin .add (.var 9) (.b1 .len (.var 3)))) (.cons (.cmp .ne (.var 12) (.var 9)) .nil))) (.cons (.ret (.lit (.bl false))) .nil) .nil) .nil))))) (.cons (.asg 14 (.call 4 (.cons (.var 3) .nil))) (.cons (.forr (.one 4) (.irng1 (.b1 .len (.var 3))) (.cons (.forr (.one 15) (.irng1 (.b1 .len (.sub (.var 3) (.var 4)))) (.cons (.ife (.cmp .gt (.meth .index (.var 14) (.sub (.sub (.var 3) (.var 4)) (.var 15))) (.bin .add (.bin .mul (.var 15) (.b1 .len (.var 3))) (.var 4))) (.cons (.ret (.lit (.bl false))) .nil) .nil) .nil)) .nil)) (.cons (.asg 16 (.call 3 (.cons (.var 3) .nil))) (.cons (.asg 17 (.comp (.b1 .len (.comp (.var 10) (.one 10) (.iof (.var 3)) (.opt (.cmp .isin (.var 7) (.var 10))) [10])) (.one 7) (.iof (.var 16)) .absent [7])) (.cons (.ife (.ors (.cons (.cmp .ne (.var 17) (.rev (.b1 .sorted (.var 17)))) (.cons (.cmp .ne (.b1 .sorted (.var 16)) (.var 6)) (.cons (.cmp .ne (.b1 .sorted (.call 2 (.cons (.var 3) .nil))) (.var 6)) .nil)))) (.cons (.ret (.lit (.bl false))) .nil) .nil) (.cons (.asg 18 (.call 2 (.cons (.var 3) .nil))) (.cons (.ife (.cmp .ne (.var 18) (.comp (.var 7) (.tup [8, 7]) (.iof (.b1 .sorted (.comp (.tuple (.cons (.var 8) (.cons (.var 7) .nil))) (.tup [7, 8]) (.iof (.var 5)) .absent [7, 8]))) .absent [8, 7])) (.cons (.ret (.lit (.bl false))) .nil) .nil) (.cons (.asg 10 (.sub (.var 3) (.lit (.int 0)))) (.cons (.ife (.ands (.cons (.cmp .eq (.var 3) (.bin .mul (.list (.cons (.var 10) .nil)) (.b1 .len (.var 3)))) (.cons (.cmp .ne (.list (.cons (.var 18) (.cons (.var 14) (.cons (.call 1 (.cons (.var 3) .nil)) .nil)))) (.bin .mul (.list (.cons (.var 10) .nil)) (.lit (.int 3)))) .nil))) (.cons (.ret (.lit (.bl false))) .nil) .nil) (.cons (.asg 19 (.call 1 (.cons (.var 3) .nil))) (.cons (.ret (.ands (.cons (.cmp .eq (.sub (.var 19) (.lit (.int 0))) (.b1 .min (.comp (.sub (.var 10) (.lit (.int 0))) (.one 10) (.iof (.var 3)) .absent [10]))) (.cons (.cmp .eq (.b1 .sorted (.call 0 (.cons (.var 3) .nil))) (.call 0 (.cons (.var 3) .nil))) (.cons (.cmp .eq (.b1 .len (.var 19)) (.b1 .len (.var 6))) .nil))))) .nil)))))))))))))))))
def F_law_k20 : Fn := mkFn [F_unbeaten, F_by_best_place, F_by_sum, F_by_votes, F_turns, F_beats, F_place_sums, F__law_draw, F__law_short, F__law_start] 1 20 b_law_k20
def b_check_shorts : St := (.cons (.exp (.call 0 (.cons (.var 0) .nil))) (.cons (.exp (.call 0 (.cons (.var 1) .nil))) .nil))
def F_check_shorts : Fn := mkFn [F_check_short] 2 2 b_check_shorts
def b_alone : St := (.cons (.exp (.call 0 (.cons (.var 0) (.cons (.var 1) .nil)))) (.cons (.ret (.comp (.var 2) (.one 2) (.iof (.var 0)) (.opt (.cmp .notin (.var 2) (.var 1))) [2])) .nil))
def F_alone : Fn := mkFn [F_check_shorts] 2 3 b_alone
def b_listed : St := (.cons (.exp (.call 0 (.cons (.var 0) (.cons (.var 1) .nil)))) (.cons (.ret (.comp (.var 2) (.one 2) (.istr (.gcon "LETTERS" (.str "abcdefghij"))) (.opt (.ors (.cons (.cmp .isin (.var 2) (.var 0)) (.cons (.cmp .isin (.var 2) (.var 1)) .nil)))) [2])) .nil))
def F_listed : Fn := mkFn [F_check_shorts] 2 3 b_listed
def b_rest_of : St := (.cons (.ret (.comp (.var 2) (.one 2) (.iof (.var 1)) (.opt (.cmp .notin (.var 2) (.var 0))) [2])) .nil)
def F_rest_of : Fn := mkFn [] 2 3 b_rest_of
def b_place_range : St := (.cons (.exp (.call 1 (.cons (.var 0) (.cons (.var 1) .nil)))) (.cons (.ife (.ors (.cons (.not (.isI .str (.var 2))) (.cons (.cmp .notin (.var 2) (.bin .add (.var 0) (.var 1))) .nil))) (.cons (.raise 5) .nil) .nil) (.cons (.ife (.cmp .isin (.var 2) (.var 0)) (.cons (.ret (.tuple (.cons (.bin .add (.lit (.int 1)) (.meth .index (.var 0) (.var 2))) (.cons (.bin .add (.lit (.int 1)) (.meth .index (.var 0) (.var 2))) .nil)))) .nil) .nil) (.cons (.ret (.tuple (.cons (.bin .add (.b1 .len (.var 0)) (.lit (.int 1))) (.cons (.bin .add (.b1 .len (.var 0)) (.b1 .len (.call 0 (.cons (.var 0) (.cons (.var 1) .nil))))) .nil)))) .nil))))
def F_place_range : Fn := mkFn [F_rest_of, F_check_shorts] 3 3 b_place_range
def b_kinds_of : St := (.cons (.asg 2 (.comp (.var 3) (.one 3) (.istr (.gcon "LETTERS" (.str "abcdefghij"))) (.opt (.ors (.cons (.cmp .isin (.var 3) (.var 0)) (.cons (.cmp .isin (.var 3) (.var 1)) .nil)))) [3])) (.cons (.newm [4, 5, 6]) (.cons (.forr (.tup [7, 8]) (.ienum (.var 2)) (.cons (.forr (.one 9) (.iof (.slice (.var 2) (.opt (.bin .add (.var 7) (.lit (.int 1)))) .absent)) (.cons (.ife (.ors (.cons (.not (.call 0 (.cons (.var 0) (.cons (.var 8) (.cons (.var 9) .nil))))) (.cons (.not (.call 0 (.cons (.var 1) (.cons (.var 8) (.cons (.var 9) .nil))))) .nil))) (.cons (.app 6 (.tuple (.cons (.var 8) (.cons (.var 9) .nil)))) .nil) (.cons (.ife (.cmp .eq (.call 1 (.cons (.var 0) (.cons (.var 8) (.cons (.var 9) .nil)))) (.call 1 (.cons (.var 1) (.cons (.var 8) (.cons (.var 9) .nil))))) (.cons (.app 4 (.tuple (.cons (.var 8) (.cons (.var 9) .nil)))) .nil) (.cons (.app 5 (.tuple (.cons (.var 8) (.cons (.var 9) .nil)))) .nil)) .nil)) .nil)) .nil)) (.cons (.rett (.cons (.bvar 4) (.cons (.bvar 5) (.cons (.bvar 6) .nil)))) .nil))))
def F_kinds_of : Fn := mkFn [F_is_known, F_is_ahead] 2 10 b_kinds_of
def b_pairs_of : St := (.cons (.exp (.call 1 (.cons (.var 0) (.cons (.var 1) .nil)))) (.cons (.ret (.call 0 (.cons (.var 0) (.cons (.var 1) .nil)))) .nil))
def F_pairs_of : Fn := mkFn [F_kinds_of, F_check_shorts] 2 2 b_pairs_of
def b__law_kinds : St := (.cons (.par [1, 2] (.cons (.sub (.var 0) (.lit (.int 0))) (.cons (.sub (.var 0) (.neg (.lit (.int 1)))) .nil))) (.cons (.unp [3, 4, 5] (.call 4 (.cons (.var 1) (.cons (.var 2) .nil)))) (.cons (.ife (.cmp .ne (.comp (.var 6) (.one 6) (.iof (.var 3)) (.opt (.cmp .eq (.call 3 (.cons (.list (.cons (.var 1) (.cons (.var 2) .nil))) (.cons (.sub (.var 6) (.lit (.int 0))) (.cons (.sub (.var 6) (.lit (.int 1))) .nil)))) (.lit (.str "unknown")))) [6]) (.list .nil)) (.cons (.ret (.lit (.bl false))) .nil) .nil) (.cons (.ife (.cmp .ne (.comp (.var 6) (.one 6) (.iof (.var 4)) (.opt (.cmp .ne (.call 3 (.cons (.list (.cons (.var 1) (.cons (.var 2) .nil))) (.cons (.sub (.var 6) (.lit (.int 0))) (.cons (.sub (.var 6) (.lit (.int 1))) .nil)))) (.lit (.str "unknown")))) [6]) (.list .nil)) (.cons (.ret (.lit (.bl false))) .nil) .nil) (.cons (.ife (.cmp .ne (.comp (.var 6) (.one 6) (.iof (.var 5)) (.opt (.cmp .eq (.call 3 (.cons (.list (.cons (.var 1) (.cons (.var 2) .nil))) (.cons (.sub (.var 6) (.lit (.int 0))) (.cons (.sub (.var 6) (.lit (.int 1))) .nil)))) (.lit (.str "unknown")))) [6]) (.list .nil)) (.cons (.ret (.lit (.bl false))) .nil) .nil) (.cons (.asg 7 (.b1 .len (.call 1 (.cons (.var 1) (.cons (.var 2) .nil))))) (.cons (.ife (.cmp .ne (.bin .add (.bin .add (.b1 .len (.var 3)) (.b1 .len (.var 4))) (.b1 .len (.var 5))) (.bin .fdiv (.bin .mul (.var 7) (.bin .sub (.var 7) (.lit (.int 1)))) (.lit (.int 2)))) (.cons (.ret (.lit (.bl false))) .nil) .nil) (.cons (.asg 8 (.comp (.var 9) (.one 9) (.iof (.call 1 (.cons (.var 1) (.cons (.var 2) .nil)))) (.opt (.cmp .notin (.var 9) (.var 1))) [9])) (.cons (.asg 10 (.comp (.call 2 (.cons (.var 1) (.cons (.var 2) (.cons (.var 9) .nil)))) (.one 9) (.iof (.call 1 (.cons (.var 1) (.cons (.var 2) .nil)))) .absent [9])) (.cons (.ret (.ands (.cons (.cmp .eq (.b1 .len (.comp (.var 11) (.one 11) (.iof (.var 10)) (.opt (.cmp .ne (.sub (.var 11) (.lit (.int 0))) (.sub (.var 11) (.lit (.int 1))))) [11])) (.ife (.cmp .gt (.b1 .len (.var 8)) (.lit (.int 1))) (.b1 .len (.var 8)) (.lit (.int 0)))) (.cons (.cmp .eq (.b1 .len (.call 0 (.cons (.var 2) (.cons (.var 1) .nil)))) (.b1 .len (.var 8))) .nil)))) .nil))))))))))
def F__law_kinds : Fn := mkFn [F_alone, F_listed, F_place_range, F_sure_order, F_pairs_of] 1 12 b__law_kinds
def b_law_k19 : St := (.cons (.asg 1 (.call 4 (.cons (.var 0) .nil))) (.cons (.asg 2 (.bin .add (.lit (.int 2)) (.call 2 (.cons (.var 1) (.cons (.lit (.int 4)) .nil))))) (.cons (.asg 3 (.comp (.call 3 (.cons (.var 1) (.cons (.var 2) .nil))) (.one 4) (.irng1 (.bin .add (.lit (.int 1)) (.call 2 (.cons (.var 1) (.cons (.lit (.int 4)) .nil))))) .absent [4])) (.cons (.asg 5 (.b1 .list (.slice (.lit (.str "abcdefghij")) .absent (.opt (.var 2))))) (.cons (.forr (.one 4) (.irng1 (.var 2)) (.cons (.forr (.one 6) (.iof (.slice (.var 5) (.opt (.bin .add (.var 4) (.lit (.int 1)))) .absent)) (.cons (.asgm 7 (.list .nil)) (.cons (.forr (.one 8) (.iof (.var 3)) (.cons (.ife (.ors (.cons (.cmp .isin (.sub (.var 5) (.var 4)) (.var 8)) (.cons (.cmp .isin (.var 6) (.var 8)) .nil))) (.cons (.asg 9 (.bin .add (.var 8) (.comp (.var 10) (.one 10) (.iof (.var 5)) (.opt (.cmp .notin (.var 10) (.var 8))) [10]))) (.cons (.asg 11 (.bin .add (.var 8) (.rev (.comp (.var 10) (.one 10) (.iof (.var 5)) (.opt (.cmp .notin (.var 10) (.var 8))) [10])))) (.cons (.asg 12 (.cmp .lt (.meth .index (.var 9) (.sub (.var 5) (.var 4))) (.meth .index (.var 9) (.var 6)))) (.cons (.ife (.cmp .ne (.var 12) (.cmp .lt (.meth .index (.var 11) (.sub (.var 5) (.var 4))) (.meth .index (.var 11) (.var 6)))) (.cons (.ret (.lit (.bl false))) .nil) .nil) (.cons (.app 7 (.var 12)) .nil))))) .nil) .nil)) (.cons (.asg 13 (.ife (.ors (.cons (.cmp .eq (.bvar 7) (.list .nil)) (.cons (.ands (.cons (.cmp .isin (.lit (.bl true)) (.bvar 7)) (.cons (.cmp .isin (.lit (.bl false)) (.bvar 7)) .nil))) .nil))) (.lit (.str "unknown")) (.ife (.sub (.bvar 7) (.lit (.int 0))) (.lit (.str "ahead")) (.lit (.str "behind"))))) (.cons (.ife (.cmp .ne (.call 1 (.cons (.var 3) (.cons (.sub (.var 5) (.var 4)) (.cons (.var 6) .nil)))) (.var 13)) (.cons (.ret (.lit (.bl false))) .nil) .nil) (.cons (.asg 14 (.ife (.cmp .eq (.var 13) (.lit (.str "unknown"))) (.lit (.str "unknown")) (.ife (.cmp .eq (.var 13) (.lit (.str "ahead"))) (.lit (.str "behind")) (.lit (.str "ahead"))))) (.cons (.ife (.cmp .ne (.call 1 (.cons (.var 3) (.cons (.var 6) (.cons (.sub (.var 5) (.var 4)) .nil)))) (.var 14)) (.cons (.ret (.lit (.bl false))) .nil) .nil) .nil))))))) .nil)) (.cons (.ret (.call 0 (.cons (.var 3) .nil))) .nil))))))
def F_law_k19 : Fn := mkFn [F__law_kinds, F_sure_order, F__law_draw, F__law_short, F__law_start] 1 15 b_law_k19
def b_by_turns : St := (.cons (.exp (.call 0 (.cons (.var 0) (.cons (.var 1) .nil)))) (.cons (.asgm 2 (.list .nil)) (.cons (.forr (.tup [3, 4]) (.izip (.var 0) (.var 1)) (.cons (.forr (.one 5) (.itup (.tuple (.cons (.var 3) (.cons (.var 4) .nil)))) (.cons (.ife (.cmp .notin (.var 5) (.bvar 2)) (.cons (.app 2 (.var 5)) .nil) .nil) .nil)) .nil)) (.cons (.retm 2) .nil))))
def F_by_turns : Fn := mkFn [F_check_both] 2 6 b_by_turns
def b_is_fair : St := (.cons (.forr (.one 3) (.irng2 (.lit (.int 1)) (.bin .add (.b1 .len (.var 0)) (.lit (.int 1)))) (.cons (.ife (.not (.b1 .all (.comp (.cmp .isin (.var 4) (.slice (.var 2) .absent (.opt (.bin .mul (.lit (.int 2)) (.var 3))))) (.one 4) (.iof (.bin .add (.slice (.var 0) .absent (.opt (.var 3))) (.slice (.var 1) .absent (.opt (.var 3))))) .absent [4]))) (.cons (.ret (.lit (.bl false))) .nil) .nil) .nil)) (.cons (.ret (.lit (.bl true))) .nil))
def F_is_fair : Fn := mkFn [] 3 5 b_is_fair
def b_is_fair_list : St := (.cons (.exp (.call 1 (.cons (.var 0) (.cons (.var 1) .nil)))) (.cons (.exp (.call 1 (.cons (.var 0) (.cons (.var 2) .nil)))) (.cons (.ret (.call 0 (.cons (.var 0) (.cons (.var 1) (.cons (.var 2) .nil))))) .nil)))
def F_is_fair_list : Fn := mkFn [F_is_fair, F_check_both] 3 3 b_is_fair_list
def b_first_unfair : St := (.cons (.exp (.call 0 (.cons (.var 0) (.cons (.var 1) .nil)))) (.cons (.exp (.call 0 (.cons (.var 0) (.cons (.var 2) .nil)))) (.cons (.forr (.one 3) (.irng2 (.lit (.int 1)) (.bin .add (.b1 .len (.var 0)) (.lit (.int 1)))) (.cons (.ife (.not (.b1 .all (.comp (.cmp .isin (.var 4) (.slice (.var 2) .absent (.opt (.bin .mul (.lit (.int 2)) (.var 3))))) (.one 4) (.iof (.bin .add (.slice (.var 0) .absent (.opt (.var 3))) (.slice (.var 1) .absent (.opt (.var 3))))) .absent [4]))) (.cons (.ret (.var 3)) .nil) .nil) .nil)) (.cons (.ret (.lit .non)) .nil))))
def F_first_unfair : Fn := mkFn [F_check_both] 3 5 b_first_unfair
def b_rest_ways : St := (.cons (.asg 3 (.b1 .sorted (.comp (.var 5) (.tup [4, 5]) (.ienum (.var 0)) (.opt (.cmp .notin (.var 4) (.var 1))) [4, 5]))) (.cons (.asg 6 (.lit (.int 1))) (.cons (.forr (.tup [7, 5]) (.ienum (.var 3)) (.cons (.aug 6 .mul (.b2 .max (.lit (.int 0)) (.bin .sub (.bin .sub (.var 5) (.var 2)) (.var 7)))) .nil)) (.cons (.ret (.var 6)) .nil))))
def F_rest_ways : Fn := mkFn [] 3 8 b_rest_ways
def b_fair_at : St := (.cons (.exp (.call 4 (.cons (.var 0) (.cons (.var 1) .nil)))) (.cons (.ife (.not (.call 2 (.cons (.var 2) (.cons (.lit (.int 0)) (.cons (.bin .sub (.call 3 (.cons (.var 0) (.cons (.var 1) .nil))) (.lit (.int 1))) .nil))))) (.cons (.raise 1) .nil) .nil) (.cons (.asg 3 (.comp (.b2 .min (.b1 .len (.var 0)) (.bin .mul (.lit (.int 2)) (.call 1 (.cons (.var 0) (.cons (.var 1) (.cons (.var 4) .nil)))))) (.one 4) (.irng1 (.b1 .len (.var 0))) .absent [4])) (.cons (.asg 5 (.list .nil)) (.cons (.whl 100000 (.cmp .lt (.b1 .len (.var 5)) (.b1 .len (.var 0))) (.cons (.forr (.one 4) (.irng1 (.b1 .len (.var 0))) (.cons (.ife (.cmp .isin (.var 4) (.var 5)) (.cons .cnt .nil) .nil) (.cons (.asg 6 (.call 0 (.cons (.var 3) (.cons (.bin .add (.var 5) (.list (.cons (.var 4) .nil))) (.cons (.bin .add (.b1 .len (.var 5)) (.lit (.int 1))) .nil))))) (.cons (.ife (.cmp .lt (.var 2) (.var 6)) (.cons (.asg 5 (.bin .add (.var 5) (.list (.cons (.var 4) .nil)))) (.cons .brk .nil)) .nil) (.cons (.aug 2 .sub (.var 6)) .nil))))) .nil)) (.cons (.ret (.var 5)) .nil))))))
def F_fair_at : Fn := mkFn [F_rest_ways, F_better, F_is_int, F_ways, F_check_both] 3 7 b_fair_at
def b_last_places : St := (.cons (.exp (.call 1 (.cons (.var 0) (.cons (.var 1) .nil)))) (.cons (.ret (.comp (.b2 .min (.b1 .len (.var 0)) (.bin .mul (.lit (.int 2)) (.call 0 (.cons (.var 0) (.cons (.var 1) (.cons (.var 2) .nil)))))) (.one 2) (.irng1 (.b1 .len (.var 0))) .absent [2])) .nil))
def F_last_places : Fn := mkFn [F_better, F_check_both] 2 3 b_last_places
def b_law_k18 : St := (.cons (.asg 1 (.call 11 (.cons (.var 0) .nil))) (.cons (.asg 2 (.bin .add (.lit (.int 1)) (.call 8 (.cons (.var 1) (.cons (.lit (.int 7)) .nil))))) (.cons (.par [3, 4] (.cons (.call 10 (.cons (.var 1) (.cons (.var 2) .nil))) (.cons (.call 10 (.cons (.var 1) (.cons (.var 2) .nil))) .nil))) (.cons (.asg 5 (.call 5 (.cons (.var 3) (.cons (.var 4) .nil)))) (.cons (.asg 6 (.call 9 (.cons (.var 3) (.cons (.var 4) .nil)))) (.cons (.asg 7 (.lit (.int 1))) (.cons (.forr (.tup [8, 9]) (.ienum (.b1 .sorted (.var 6))) (.cons (.asg 7 (.bin .mul (.var 7) (.bin .sub (.var 9) (.var 8)))) .nil)) (.cons (.ife (.ors (.cons (.cmp .ne (.var 5) (.var 7)) (.cons (.cmp .lt (.var 5) (.lit (.int 1))) .nil))) (.cons (.ret (.lit (.bl false))) .nil) .nil) (.cons (.asg 10 (.lit .non)) (.cons (.asg 11 (.b1 .srtset (.bin .add (.comp (.call 8 (.cons (.var 1) (.cons (.var 5) .nil))) (.one 8) (.irng1 (.lit (.int 5))) .absent [8]) (.list (.cons (.lit (.int 0)) (.cons (.bin .sub (.var 5) (.lit (.int 1))) .nil)))))) (.cons (.forr (.one 12) (.iof (.var 11)) (.cons (.asg 13 (.call 7 (.cons (.var 3) (.cons (.var 4) (.cons (.var 12) .nil))))) (.cons (.ife (.ors (.cons (.cmp .nisb (.call 4 (.cons (.var 3) (.cons (.var 4) (.cons (.var 13) .nil)))) (.lit (.bl true))) (.cons (.nisn (.call 6 (.cons (.var 3) (.cons (.var 4) (.cons (.var 13) .nil))))) .nil))) (.cons (.ret (.lit (.bl false))) .nil) .nil) (.cons (.ife (.ors (.cons (.cmp .ne (.comp (.var 14) (.one 14) (.irng1 (.var 2)) (.opt (.cmp .gt (.bin .add (.meth .index (.var 13) (.var 14)) (.lit (.int 1))) (.sub (.var 6) (.var 14)))) [14]) (.list .nil)) (.cons (.cmp .nisb (.call 4 (.cons (.var 4) (.cons (.var 3) (.cons (.var 13) .nil)))) (.lit (.bl true))) .nil))) (.cons (.ret (.lit (.bl false))) .nil) .nil) (.cons (.ife (.ands (.cons (.nisn (.var 10)) (.cons (.not (.cmp .lt (.var 10) (.var 13))) .nil))) (.cons (.ret (.lit (.bl false))) .nil) .nil) (.cons (.asg 10 (.var 13)) .nil)))))) (.cons (.ife (.ors (.cons (.cmp .nisb (.call 4 (.cons (.var 3) (.cons (.var 3) (.cons (.var 3) .nil)))) (.lit (.bl true))) (.cons (.cmp .lt (.call 5 (.cons (.var 3) (.cons (.var 3) .nil))) (.var 5)) (.cons (.cmp .nisb (.call 4 (.cons (.var 3) (.cons (.var 4) (.cons (.call 0 (.cons (.var 3) (.cons (.var 4) .nil))) .nil)))) (.lit (.bl true))) .nil)))) (.cons (.ret (.lit (.bl false))) .nil) .nil) (.cons (.forr (.one 14) (.irng1 (.var 2)) (.cons (.asg 15 (.bin .add (.b2 .min (.meth .index (.var 3) (.var 14)) (.meth .index (.var 4) (.var 14))) (.lit (.int 1)))) (.cons (.ife (.ors (.cons (.cmp .ne (.sub (.var 6) (.var 14)) (.b2 .min (.var 2) (.bin .mul (.lit (.int 2)) (.var 15)))) (.cons (.cmp .lt (.call 3 (.cons (.var 3) (.cons (.var 4) (.cons (.var 14) .nil)))) (.var 15)) .nil))) (.cons (.ret (.lit (.bl false))) .nil) .nil) .nil))) (.cons (.asg 16 (.call 0 (.cons (.var 3) (.cons (.var 4) .nil)))) (.cons (.forr (.one 17) (.irng2 (.lit (.int 1)) (.bin .add (.var 2) (.lit (.int 1)))) (.cons (.ife (.cmp .ne (.comp (.var 14) (.one 14) (.iof (.call 1 (.cons (.var 3) (.cons (.var 4) (.cons (.var 17) .nil))))) (.opt (.cmp .notin (.var 14) (.slice (.var 16) .absent (.opt (.bin .sub (.bin .mul (.lit (.int 2)) (.var 17)) (.call 2 (.cons (.var 3) (.cons (.var 4) (.cons (.var 17) .nil))))))))) [14]) (.list .nil)) (.cons (.ret (.lit (.bl false))) .nil) .nil) .nil)) (.cons (.ret (.ands (.cons (.cmp .eq (.call 0 (.cons (.var 3) (.cons (.var 3) .nil))) (.var 3)) (.cons (.cmp .eq (.sub (.var 16) (.lit (.int 0))) (.sub (.var 3) (.lit (.int 0)))) .nil)))) .nil))))))))))))))))
def F_law_k18 : Fn := mkFn [F_by_turns, F_common_things, F_overlap, F_meeting_depth, F_is_fair_list, F_count_fair, F_first_unfair, F_fair_at, F__law_draw, F_last_places, F__law_list, F__law_start] 1 18 b_law_k18
def b_distance_range : St := (.cons (.exp (.call 1 (.cons (.var 0) (.cons (.var 1) .nil)))) (.cons (.unp [2, 3, 4] (.call 0 (.cons (.var 0) (.cons (.var 1) .nil)))) (.cons (.ret (.tuple (.cons (.b1 .len (.var 3)) (.cons (.bin .add (.b1 .len (.var 3)) (.b1 .len (.var 4))) .nil)))) .nil)))
def F_distance_range : Fn := mkFn [F_kinds_of, F_check_shorts] 2 5 b_distance_range
def b_nearest_fill : St := (.cons (.exp (.call 1 (.cons (.var 0) (.cons (.var 1) .nil)))) (.cons (.ret (.tuple (.cons (.bin .add (.var 0) (.call 0 (.cons (.var 0) (.cons (.var 1) .nil)))) (.cons (.bin .add (.var 1) (.call 0 (.cons (.var 1) (.cons (.var 0) .nil)))) .nil)))) .nil))
def F_nearest_fill : Fn := mkFn [F_rest_of, F_check_shorts] 2 2 b_nearest_fill
def b_agree : St := (.cons (.exp (.call 1 (.cons (.var 0) (.cons (.var 1) .nil)))) (.cons (.ret (.cmp .eq (.sub (.call 0 (.cons (.var 0) (.cons (.var 1) .nil))) (.lit (.int 1))) (.list .nil))) .nil))
def F_agree : Fn := mkFn [F_kinds_of, F_check_shorts] 2 2 b_agree
def b__law_otherwise : St := (.cons (.asg 2 (.lit (.int 0))) (.cons (.forr (.one 3) (.irng1 (.b1 .len (.var 0))) (.cons (.asg 2 (.bin .add (.var 2) (.b1 .len (.comp (.var 4) (.one 4) (.iof (.slice (.var 0) (.opt (.bin .add (.var 3) (.lit (.int 1)))) .absent)) (.opt (.cmp .lt (.meth .index (.var 1) (.var 4)) (.meth .index (.var 1) (.sub (.var 0) (.var 3))))) [4])))) .nil)) (.cons (.ret (.var 2)) .nil)))
def F__law_otherwise : Fn := mkFn [] 2 5 b__law_otherwise
def b__law_true : St := (.cons (.ret (.ands (.cons (.isI .bool (.var 0)) (.cons (.cmp .eq (.var 0) (.var 1)) .nil)))) .nil)
def F__law_true : Fn := mkFn [] 2 2 b__law_true
def b_check_long : St := (.cons (.ife (.ors (.cons (.not (.isI .list (.var 0))) (.cons (.not (.chain .le .le (.lit (.int 1)) (.b1 .len (.var 0)) (.lit (.int 10)))) .nil))) (.cons (.raise 3) .nil) .nil) (.cons (.ife (.not (.b1 .all (.comp (.ands (.cons (.isI .str (.var 1)) (.cons (.cmp .eq (.b1 .len (.var 1)) (.lit (.int 1))) (.cons (.cmp .isin (.var 1) (.gcon "LETTERS" (.str "abcdefghij"))) .nil)))) (.one 1) (.iof (.var 0)) .absent [1]))) (.cons (.raise 3) .nil) .nil) (.cons (.ife (.cmp .ne (.b1 .lenset (.var 0)) (.b1 .len (.var 0))) (.cons (.raise 3) .nil) .nil) .nil)))
def F_check_long : Fn := mkFn [] 1 2 b_check_long
def b_can_extend : St := (.cons (.exp (.call 1 (.cons (.var 0) .nil))) (.cons (.exp (.call 0 (.cons (.var 1) .nil))) (.cons (.ret (.cmp .eq (.slice (.var 1) .absent (.opt (.b1 .len (.var 0)))) (.var 0))) .nil)))
def F_can_extend : Fn := mkFn [F_check_long, F_check_short] 2 2 b_can_extend
def b_prefix : St := (.cons (.exp (.call 0 (.cons (.var 0) .nil))) (.cons (.ife (.ors (.cons (.not (.isI .int (.var 1))) (.cons (.isI .bool (.var 1)) (.cons (.not (.chain .le .le (.lit (.int 1)) (.var 1) (.b1 .len (.var 0)))) .nil)))) (.cons (.raise 3) .nil) .nil) (.cons (.ret (.slice (.var 0) .absent (.opt (.var 1)))) .nil)))
def F_prefix : Fn := mkFn [F_check_short] 2 2 b_prefix
def b_count_otherwise : St := (.cons (.exp (.call 0 (.cons (.var 0) .nil))) (.cons (.exp (.call 0 (.cons (.var 1) .nil))) (.cons (.ife (.cmp .ne (.b1 .sorted (.var 0)) (.b1 .sorted (.var 1))) (.cons (.raise 3) .nil) .nil) (.cons (.asg 2 (.lit (.int 0))) (.cons (.forr (.tup [3, 4]) (.ienum (.var 0)) (.cons (.forr (.one 5) (.iof (.slice (.var 0) (.opt (.bin .add (.var 3) (.lit (.int 1)))) .absent)) (.cons (.aug 2 .add (.ife (.cmp .gt (.meth .index (.var 1) (.var 4)) (.meth .index (.var 1) (.var 5))) (.lit (.int 1)) (.lit (.int 0)))) .nil)) .nil)) (.cons (.ret (.var 2)) .nil))))))
def F_count_otherwise : Fn := mkFn [F_check_long] 2 6 b_count_otherwise
def b_law_k07 : St := (.cons (.asg 1 (.call 12 (.cons (.var 0) .nil))) (.cons (.asg 2 (.bin .add (.lit (.int 2)) (.call 9 (.cons (.var 1) (.cons (.lit (.int 5)) .nil))))) (.cons (.par [3, 4] (.cons (.call 11 (.cons (.var 1) (.cons (.var 2) .nil))) (.cons (.call 11 (.cons (.var 1) (.cons (.var 2) .nil))) .nil))) (.cons (.par [5, 6] (.cons (.comp (.sub (.lit (.str "abcdefg")) (.var 7)) (.one 7) (.iof (.var 3)) .absent [7]) (.cons (.comp (.sub (.lit (.str "abcdefg")) (.var 7)) (.one 7) (.iof (.var 4)) .absent [7]) .nil))) (.cons (.asg 8 (.call 5 (.cons (.var 5) (.cons (.var 6) .nil)))) (.cons (.ife (.ors (.cons (.cmp .ne (.call 10 (.cons (.var 5) (.cons (.var 6) .nil))) (.var 8)) (.cons (.cmp .ne (.call 10 (.cons (.var 6) (.cons (.var 5) .nil))) (.var 8)) (.cons (.cmp .ne (.call 10 (.cons (.var 5) (.cons (.var 5) .nil))) (.lit (.int 0))) .nil)))) (.cons (.ret (.lit (.bl false))) .nil) .nil) (.cons (.ife (.cmp .ne (.call 10 (.cons (.var 5) (.cons (.rev (.var 6)) .nil))) (.bin .sub (.bin .fdiv (.bin .mul (.var 2) (.bin .sub (.var 2) (.lit (.int 1)))) (.lit (.int 2))) (.var 8))) (.cons (.ret (.lit (.bl false))) .nil) .nil) (.cons (.par [9, 10] (.cons (.bin .add (.lit (.int 1)) (.call 9 (.cons (.var 1) (.cons (.b2 .min (.lit (.int 6)) (.var 2)) .nil)))) (.cons (.bin .add (.lit (.int 1)) (.call 9 (.cons (.var 1) (.cons (.b2 .min (.lit (.int 6)) (.var 2)) .nil)))) .nil))) (.cons (.par [11, 12] (.cons (.call 8 (.cons (.slice (.var 5) .absent (.opt (.lit (.int 6)))) (.cons (.var 9) .nil))) (.cons (.call 8 (.cons (.slice (.var 6) .absent (.opt (.lit (.int 6)))) (.cons (.var 10) .nil))) .nil))) (.cons (.ife (.ors (.cons (.cmp .ne (.var 11) (.slice (.var 5) .absent (.opt (.var 9)))) (.cons (.cmp .ne (.var 12) (.slice (.var 6) .absent (.opt (.var 10)))) (.cons (.cmp .nisb (.call 7 (.cons (.var 11) (.cons (.var 5) .nil))) (.lit (.bl true))) (.cons (.not (.call 6 (.cons (.call 7 (.cons (.var 12) (.cons (.var 5) .nil))) (.cons (.cmp .eq (.slice (.var 5) .absent (.opt (.var 10))) (.var 12)) .nil)))) .nil))))) (.cons (.ret (.lit (.bl false))) .nil) .nil) (.cons (.unp [13, 14] (.call 1 (.cons (.var 11) (.cons (.var 12) .nil)))) (.cons (.asg 15 (.comp (.var 16) (.one 16) (.iof (.var 5)) (.opt (.ors (.cons (.cmp .isin (.var 16) (.var 11)) (.cons (.cmp .isin (.var 16) (.var 12)) .nil)))) [16])) (.cons (.asg 17 (.tuple (.cons (.comp (.var 16) (.one 16) (.iof (.var 5)) (.opt (.cmp .isin (.var 16) (.var 15))) [16]) (.cons (.comp (.var 16) (.one 16) (.iof (.var 6)) (.opt (.cmp .isin (.var 16) (.var 15))) [16]) .nil)))) (.cons (.ife (.ors (.cons (.not (.chain .le .le (.var 13) (.call 5 (.cons (.sub (.var 17) (.lit (.int 0))) (.cons (.sub (.var 17) (.lit (.int 1))) .nil))) (.var 14))) (.cons (.cmp .ne (.call 4 (.cons (.var 11) (.cons (.var 12) .nil))) (.b1 .sorted (.var 15))) .nil))) (.cons (.ret (.lit (.bl false))) .nil) .nil) (.cons (.ife (.ands (.cons (.cmp .gt (.var 9) (.lit (.int 1))) (.cons (.cmp .eq (.b1 .sorted (.var 15)) (.call 4 (.cons (.slice (.var 11) .absent (.opt (.neg (.lit (.int 1))))) (.cons (.var 12) .nil)))) .nil))) (.cons (.unp [18, 19] (.call 1 (.cons (.slice (.var 11) .absent (.opt (.neg (.lit (.int 1))))) (.cons (.var 12) .nil)))) (.cons (.ife (.not (.chain3 .le .le .le (.var 18) (.var 13) (.var 14) (.var 19))) (.cons (.ret (.lit (.bl false))) .nil) .nil) .nil)) .nil) (.cons (.ife (.ands (.cons (.cmp .eq (.var 9) (.var 2)) (.cons (.cmp .eq (.var 10) (.var 2)) (.cons (.cmp .ne (.tuple (.cons (.var 13) (.cons (.var 14) .nil))) (.tuple (.cons (.var 8) (.cons (.var 8) .nil)))) .nil)))) (.cons (.ret (.lit (.bl false))) .nil) .nil) (.cons (.ife (.ors (.cons (.cmp .nisb (.call 3 (.cons (.var 11) (.cons (.var 11) .nil))) (.lit (.bl true))) (.cons (.cmp .ne (.call 1 (.cons (.var 11) (.cons (.var 11) .nil))) (.tuple (.cons (.lit (.int 0)) (.cons (.lit (.int 0)) .nil)))) (.cons (.cmp .ne (.call 2 (.cons (.var 11) (.cons (.var 11) .nil))) (.tuple (.cons (.var 11) (.cons (.var 11) .nil)))) .nil)))) (.cons (.ret (.lit (.bl false))) .nil) .nil) (.cons (.ret (.ands (.cons (.cmp .eq (.call 1 (.cons (.var 12) (.cons (.var 11) .nil))) (.tuple (.cons (.var 13) (.cons (.var 14) .nil)))) (.cons (.cmp .eq (.b1 .len (.sub (.call 0 (.cons (.var 11) (.cons (.var 12) .nil))) (.lit (.int 2)))) (.bin .sub (.var 14) (.var 13))) .nil)))) .nil))))))))))))))))))
def F_law_k07 : Fn := mkFn [F_pairs_of, F_distance_range, F_nearest_fill, F_agree, F_listed, F__law_otherwise, F__law_true, F_can_extend, F_prefix, F__law_draw, F_count_otherwise, F__law_list, F__law_start] 1 20 b_law_k07
def b_rows_of : St := (.cons (.asg 1 (.list (.cons (.list .nil) .nil))) (.cons (.forr (.one 2) (.irng1 (.var 0)) (.cons (.asgm 3 (.list .nil)) (.cons (.forr (.one 4) (.iof (.var 1)) (.cons (.asg 5 (.ife (.cmp .ne (.var 4) (.list .nil)) (.sub (.var 4) (.neg (.lit (.int 1)))) (.lit (.int 0)))) (.cons (.forr (.one 6) (.irng2 (.var 5) (.bin .add (.var 5) (.lit (.int 3)))) (.cons (.ife (.chain .le .le (.bin .sub (.bin .mul (.lit (.int 2)) (.bin .add (.var 2) (.lit (.int 1)))) (.var 0)) (.var 6) (.bin .add (.var 2) (.lit (.int 1)))) (.cons (.app 3 (.bin .add (.var 4) (.list (.cons (.var 6) .nil)))) .nil) .nil) .nil)) .nil))) (.cons (.mov 1 3) .nil)))) (.cons (.ret (.var 1)) .nil)))
def F_rows_of : Fn := mkFn [] 1 7 b_rows_of
def b_check_row : St := (.cons (.ife (.not (.call 0 (.cons (.var 0) .nil))) (.cons (.raise 2) .nil) .nil) .nil)
def F_check_row : Fn := mkFn [F_is_row] 1 1 b_check_row
def b_rank_of : St := (.cons (.exp (.call 1 (.cons (.var 0) .nil))) (.cons (.ret (.meth .index (.call 0 (.cons (.b1 .len (.var 0)) .nil)) (.var 0))) .nil))
def F_rank_of : Fn := mkFn [F_rows_of, F_check_row] 1 1 b_rank_of
def b_other_with : St := (.cons (.exp (.call 1 (.cons (.var 0) .nil))) (.cons (.exp (.call 0 (.cons (.var 1) .nil))) (.cons (.ife (.cmp .ne (.b1 .len (.var 1)) (.b1 .len (.var 0))) (.cons (.raise 2) .nil) .nil) (.cons (.asgm 2 (.bin .mul (.list (.cons (.lit .non) .nil)) (.b1 .len (.var 0)))) (.cons (.asgm 3 (.list .nil)) (.cons (.asg 4 (.lit (.int 0))) (.cons (.forr (.tup [5, 6]) (.ienum (.var 1)) (.cons (.ife (.cmp .eq (.bin .sub (.var 6) (.var 4)) (.lit (.int 0))) (.cons (.app 3 (.var 5)) .nil) (.cons (.ife (.cmp .eq (.bin .sub (.var 6) (.var 4)) (.lit (.int 1))) (.cons (.seti 2 (.var 5) (.sub (.var 0) (.var 5))) .nil) (.cons (.asg 7 (.sub (.bvar 3) (.lit (.int 0)))) (.cons (.asgm 3 (.slice (.bvar 3) (.opt (.lit (.int 1))) .absent)) (.cons (.set2 2 (.var 7) (.var 5) (.sub (.var 0) (.var 5)) (.sub (.var 0) (.var 7))) .nil)))) .nil)) (.cons (.asg 4 (.var 6)) .nil))) (.cons (.retm 2) .nil))))))))
def F_other_with : Fn := mkFn [F_check_row, F_check_full] 2 8 b_other_with
def b_waits_of : St := (.cons (.ret (.comp (.bin .sub (.var 1) (.var 2)) (.tup [1, 2]) (.ienum (.bin .add (.list (.cons (.lit (.int 0)) .nil)) (.slice (.var 0) .absent (.opt (.neg (.lit (.int 1))))))) .absent [1, 2])) .nil)
def F_waits_of : Fn := mkFn [] 1 3 b_waits_of
def b_ways_of : St := (.cons (.asg 1 (.lit (.int 1))) (.cons (.asg 2 (.lit (.int 0))) (.cons (.forr (.tup [3, 4]) (.izip (.var 0) (.call 0 (.cons (.var 0) .nil))) (.cons (.aug 1 .mul (.sub (.tuple (.cons (.lit (.int 1)) (.cons (.bin .add (.bin .mul (.lit (.int 2)) (.var 4)) (.lit (.int 1))) (.cons (.bin .mul (.var 4) (.var 4)) .nil)))) (.bin .sub (.var 3) (.var 2)))) (.cons (.asg 2 (.var 3)) .nil))) (.cons (.ret (.var 1)) .nil))))
def F_ways_of : Fn := mkFn [F_waits_of] 1 5 b_ways_of
def b_count_others : St := (.cons (.exp (.call 1 (.cons (.var 0) .nil))) (.cons (.ret (.call 0 (.cons (.var 0) .nil))) .nil))
def F_count_others : Fn := mkFn [F_ways_of, F_check_row] 1 1 b_count_others
def b_check_size : St := (.cons (.ife (.not (.call 0 (.cons (.var 0) (.cons (.lit (.int 1)) (.cons (.gcon "MOST_THINGS" (.int 7)) .nil))))) (.cons (.raise 1) .nil) .nil) .nil)
def F_check_size : Fn := mkFn [F_is_int] 1 1 b_check_size
def b_all_rows : St := (.cons (.exp (.call 1 (.cons (.var 0) .nil))) (.cons (.ret (.call 0 (.cons (.var 0) .nil))) .nil))
def F_all_rows : Fn := mkFn [F_rows_of, F_check_size] 1 1 b_all_rows
def b_law_k13 : St := (.cons (.asg 1 (.call 15 (.cons (.var 0) .nil))) (.cons (.asg 2 (.bin .add (.lit (.int 1)) (.call 8 (.cons (.var 1) (.cons (.lit (.int 7)) .nil))))) (.cons (.asg 3 (.call 9 (.cons (.var 1) (.cons (.var 2) .nil)))) (.cons (.asg 4 (.call 14 (.cons (.var 2) .nil))) (.cons (.par [5, 6] (.cons (.comp (.var 7) (.one 7) (.irng2 (.lit (.int 1)) (.bin .add (.var 2) (.lit (.int 1)))) .absent [7]) (.cons (.comp (.b2 .max (.lit (.int 0)) (.bin .sub (.bin .mul (.lit (.int 2)) (.var 7)) (.var 2))) (.one 7) (.irng2 (.lit (.int 1)) (.bin .add (.var 2) (.lit (.int 1)))) .absent [7]) .nil))) (.cons (.ife (.ors (.cons (.cmp .ne (.call 4 (.cons (.var 3) (.cons (.var 3) .nil))) (.var 5)) (.cons (.cmp .ne (.call 4 (.cons (.var 3) (.cons (.call 11 (.cons (.var 3) .nil)) .nil))) (.var 6)) (.cons (.cmp .ne (.sub (.var 4) (.neg (.lit (.int 1)))) (.var 5)) (.cons (.cmp .ne (.sub (.var 4) (.lit (.int 0))) (.var 6)) .nil))))) (.cons (.ret (.lit (.bl false))) .nil) .nil) (.cons (.ife (.ors (.cons (.cmp .ne (.call 13 (.cons (.var 5) .nil)) (.lit (.int 1))) (.cons (.cmp .ne (.call 12 (.cons (.var 3) (.cons (.var 3) .nil))) (.var 5)) (.cons (.cmp .ne (.call 10 (.cons (.var 3) (.cons (.call 11 (.cons (.var 3) .nil)) .nil))) (.bin .fdiv (.var 2) (.lit (.int 2)))) .nil)))) (.cons (.ret (.lit (.bl false))) .nil) .nil) (.cons (.asg 8 (.call 9 (.cons (.var 1) (.cons (.var 2) .nil)))) (.cons (.asg 9 (.call 4 (.cons (.var 3) (.cons (.var 8) .nil)))) (.cons (.forr (.one 10) (.irng1 (.lit (.int 6))) (.cons (.ife (.cmp .ne (.comp (.var 7) (.one 7) (.irng1 (.var 2)) (.opt (.not (.chain .le .le (.sub (.var 6) (.var 7)) (.sub (.var 9) (.var 7)) (.sub (.var 5) (.var 7))))) [7]) (.list .nil)) (.cons (.ret (.lit (.bl false))) .nil) .nil) (.cons (.ife (.cmp .gt (.var 2) (.lit (.int 1))) (.cons (.asg 11 (.call 8 (.cons (.var 1) (.cons (.bin .sub (.var 2) (.lit (.int 1))) .nil)))) (.cons (.asg 8 (.call 7 (.cons (.var 8) (.cons (.var 11) .nil)))) (.cons (.asg 12 (.call 4 (.cons (.var 3) (.cons (.var 8) .nil)))) (.cons (.asg 13 (.comp (.var 7) (.one 7) (.irng1 (.var 2)) (.opt (.cmp .ne (.sub (.var 12) (.var 7)) (.sub (.var 9) (.var 7)))) [7])) (.cons (.ife (.ors (.cons (.cmp .ne (.comp (.var 7) (.one 7) (.iof (.var 13)) (.opt (.cmp .ne (.var 7) (.var 11))) [7]) (.list .nil)) (.cons (.cmp .gt (.b1 .abs (.bin .sub (.sub (.var 12) (.var 11)) (.sub (.var 9) (.var 11)))) (.lit (.int 1))) .nil))) (.cons (.ret (.lit (.bl false))) .nil) .nil) (.cons (.asg 9 (.var 12)) .nil)))))) .nil) .nil))) (.cons (.asg 14 (.call 6 (.cons (.var 1) (.cons (.var 4) .nil)))) (.cons (.asg 15 (.call 5 (.cons (.var 3) (.cons (.var 14) .nil)))) (.cons (.ife (.ors (.cons (.cmp .ne (.call 4 (.cons (.var 3) (.cons (.var 15) .nil))) (.var 14)) (.cons (.cmp .ne (.b1 .len (.call 3 (.cons (.var 3) (.cons (.var 15) (.cons (.var 2) .nil))))) (.var 2)) .nil))) (.cons (.ret (.lit (.bl false))) .nil) .nil) (.cons (.forr (.one 16) (.irng2 (.lit (.int 1)) (.var 2)) (.cons (.unp [17, 18] (.call 2 (.cons (.var 3) (.cons (.var 15) (.cons (.var 16) .nil))))) (.cons (.ife (.ors (.cons (.cmp .ne (.b1 .len (.var 17)) (.bin .sub (.var 16) (.sub (.var 14) (.bin .sub (.var 16) (.lit (.int 1)))))) (.cons (.cmp .ne (.b1 .len (.var 18)) (.b1 .len (.var 17))) .nil))) (.cons (.ret (.lit (.bl false))) .nil) .nil) .nil))) (.cons (.ret (.ands (.cons (.cmp .eq (.call 1 (.cons (.var 3) (.cons (.var 3) .nil))) (.tuple (.cons (.lit (.int 1)) (.cons (.lit (.int 1)) .nil)))) (.cons (.cmp .eq (.call 0 (.cons (.var 5) .nil)) (.bin .sub (.b1 .len (.var 4)) (.lit (.int 1)))) (.cons (.cmp .eq (.call 0 (.cons (.var 6) .nil)) (.lit (.int 0))) .nil))))) .nil)))))))))))))))
def F_law_k13 : Fn := mkFn [F_rank_of, F_mean_overlap, F_waiting, F_common_things, F_overlap_row, F_other_with, F__law_pick, F_exchanged, F__law_draw, F__law_list, F_empty_depth, F_backward, F_full_depths, F_count_others, F_all_rows, F__law_start] 1 19 b_law_k13
def b_Reader_waits : St := (.cons (.par [1, 2] (.cons (.slice (.sub (.fld (.var 0) 0) (.lit (.int 0))) .absent (.opt (.sub (.fld (.var 0) 1) (.lit (.int 0))))) (.cons (.slice (.sub (.fld (.var 0) 0) (.lit (.int 1))) .absent (.opt (.sub (.fld (.var 0) 1) (.lit (.int 1))))) .nil))) (.cons (.ret (.b1 .sorted (.comp (.var 3) (.one 3) (.iof (.bin .add (.var 1) (.var 2))) (.opt (.cmp .ne (.cmp .isin (.var 3) (.var 1)) (.cmp .isin (.var 3) (.var 2)))) [3]))) .nil))
def F_Reader_waits : Fn := mkFn [] 1 4 b_Reader_waits
def b_Reader_read : St := (.cons (.ife (.not (.call 0 (.cons (.var 1) (.cons (.lit (.int 0)) (.cons (.lit (.int 1)) .nil))))) (.cons (.raise 1) .nil) .nil) (.cons (.ife (.cmp .eq (.sub (.fld (.var 0) 1) (.var 1)) (.b1 .len (.sub (.fld (.var 0) 0) (.var 1)))) (.cons (.raise 5) .nil) .nil) (.cons (.augc (.fld (.var 0) 1) (.var 1) .add (.lit (.int 1))) (.cons (.appc (.fld (.var 0) 2) (.var 1)) (.cons (.ret (.sub (.sub (.fld (.var 0) 0) (.var 1)) (.bin .sub (.sub (.fld (.var 0) 1) (.var 1)) (.lit (.int 1))))) .nil)))))
def F_Reader_read : Fn := mkFn [F_is_int] 2 2 b_Reader_read
def F_Reader___init__ : Fn := mkRd F_check_both
def b_format_short : St := (.cons (.exp (.call 0 (.cons (.var 0) .nil))) (.cons (.ret (.bin .add (.meth .join (.lit (.str ">")) (.var 0)) (.lit (.str ">..")))) .nil))
def F_format_short : Fn := mkFn [F_check_short] 1 1 b_format_short
def b__law_second_k17 : St := (.cons (.ife (.ors (.cons (.cmp .ne (.call 5 (.cons (.var 0) (.cons (.var 1) .nil))) (.list (.cons (.lit (.str "a")) (.cons (.lit (.str "c")) .nil)))) (.cons (.cmp .ne (.call 4 (.cons (.list (.cons (.lit (.str "a")) (.cons (.lit (.str "b")) .nil))) (.cons (.list (.cons (.lit (.str "b")) (.cons (.lit (.str "a")) .nil))) .nil))) (.lit (.int 1))) (.cons (.cmp .ne (.call 3 (.cons (.var 1) (.cons (.var 0) (.cons (.lit (.str "a")) .nil)))) (.tuple (.cons (.lit (.int 3)) (.cons (.lit (.int 4)) .nil)))) .nil)))) (.cons (.ret (.lit (.bl false))) .nil) .nil) (.cons (.ife (.cmp .ne (.call 2 (.cons (.var 0) (.cons (.var 1) .nil))) (.tuple (.cons (.list (.cons (.tuple (.cons (.lit (.str "b")) (.cons (.lit (.str "c")) .nil))) (.cons (.tuple (.cons (.lit (.str "b")) (.cons (.lit (.str "d")) .nil))) .nil))) (.cons (.list (.cons (.tuple (.cons (.lit (.str "a")) (.cons (.lit (.str "b")) .nil))) (.cons (.tuple (.cons (.lit (.str "a")) (.cons (.lit (.str "d")) .nil))) (.cons (.tuple (.cons (.lit (.str "c")) (.cons (.lit (.str "d")) .nil))) .nil)))) (.cons (.list (.cons (.tuple (.cons (.lit (.str "a")) (.cons (.lit (.str "c")) .nil))) .nil)) .nil))))) (.cons (.ret (.lit (.bl false))) .nil) .nil) (.cons (.ret (.ands (.cons (.cmp .eq (.call 1 (.cons (.list (.cons (.var 0) (.cons (.var 1) .nil))) .nil)) (.list (.cons (.lit (.str "b")) (.cons (.lit (.str "a")) (.cons (.lit (.str "c")) (.cons (.lit (.str "d")) .nil)))))) (.cons (.cmp .eq (.call 0 (.cons (.var 1) .nil)) (.lit (.str "b>d>.."))) .nil)))) .nil)))
def F__law_second_k17 : Fn := mkFn [F_format_short, F_by_sum, F_pairs_of, F_place_range, F_count_otherwise, F_alone] 2 2 b__law_second_k17
def b_first_fault : St := (.cons (.ife (.ors (.cons (.not (.isI .list (.var 0))) (.cons (.not (.chain .le .le (.lit (.int 1)) (.b1 .len (.var 0)) (.lit (.int 7)))) (.cons (.not (.b1 .all (.comp (.call 0 (.cons (.var 1) (.cons (.lit (.int 0)) (.cons (.lit (.int 7)) .nil)))) (.one 1) (.iof (.var 0)) .absent [1]))) .nil)))) (.cons (.raise 2) .nil) .nil) (.cons (.asg 2 (.lit (.int 0))) (.cons (.forr (.tup [3, 1]) (.ienum (.var 0)) (.cons (.ife (.ors (.cons (.not (.chain .le .le (.var 2) (.var 1) (.bin .add (.var 2) (.lit (.int 2))))) (.cons (.not (.chain .le .le (.bin .sub (.bin .mul (.lit (.int 2)) (.bin .add (.var 3) (.lit (.int 1)))) (.b1 .len (.var 0))) (.var 1) (.bin .add (.var 3) (.lit (.int 1))))) .nil))) (.cons (.ret (.bin .add (.var 3) (.lit (.int 1)))) .nil) .nil) (.cons (.asg 2 (.var 1)) .nil))) (.cons (.ret (.lit .non)) .nil))))
def F_first_fault : Fn := mkFn [F_is_int] 1 4 b_first_fault
def b__law_first_k17 : St := (.cons (.ife (.ors (.cons (.cmp .ne (.call 9 (.cons (.var 0) (.cons (.var 1) .nil))) (.list (.cons (.lit (.int 0)) (.cons (.lit (.int 1)) (.cons (.lit (.int 2)) (.cons (.lit (.int 4)) .nil)))))) (.cons (.cmp .ne (.call 8 (.cons (.var 0) (.cons (.var 1) (.cons (.lit (.int 2)) .nil)))) (.tuple (.cons (.list (.cons (.lit (.int 0)) .nil)) (.cons (.list (.cons (.lit (.int 3)) .nil)) .nil)))) (.cons (.cmp .ne (.call 7 (.cons (.list (.cons (.lit (.int 0)) (.cons (.lit (.int 0)) (.cons (.lit (.int 3)) .nil)))) .nil)) (.lit (.int 2))) .nil)))) (.cons (.ret (.lit (.bl false))) .nil) .nil) (.cons (.ife (.ors (.cons (.cmp .ne (.call 6 (.cons (.list (.cons (.lit (.int 0)) (.cons (.lit (.int 1)) (.cons (.lit (.int 3)) .nil)))) .nil)) (.lit (.int 3))) (.cons (.cmp .ne (.call 5 (.cons (.lit (.int 2)) .nil)) (.list (.cons (.list (.cons (.lit (.int 0)) (.cons (.lit (.int 2)) .nil))) (.cons (.list (.cons (.lit (.int 1)) (.cons (.lit (.int 2)) .nil))) .nil)))) (.cons (.cmp .ne (.call 4 (.cons (.var 0) (.cons (.var 1) .nil))) (.list (.cons (.lit (.int 2)) (.cons (.lit (.int 2)) (.cons (.lit (.int 4)) (.cons (.lit (.int 4)) .nil)))))) .nil)))) (.cons (.ret (.lit (.bl false))) .nil) .nil) (.cons (.ret (.ands (.cons (.cmp .eq (.call 3 (.cons (.var 0) (.cons (.var 1) .nil))) (.list (.cons (.lit (.int 0)) (.cons (.lit (.int 1)) (.cons (.lit (.int 3)) (.cons (.lit (.int 2)) .nil)))))) (.cons (.cmp .eq (.call 2 (.cons (.var 0) (.cons (.var 1) (.cons (.lit (.int 2)) .nil)))) (.lit (.int 3))) (.cons (.cmp .eq (.call 1 (.cons (.var 0) (.cons (.var 1) (.cons (.lit (.int 1)) (.cons (.lit (.int 1)) (.cons (.lit (.int 1)) .nil)))))) (.lit (.int 3))) (.cons (.cmp .eq (.call 0 (.cons (.var 1) (.cons (.var 0) .nil))) (.list (.cons (.lit (.int 2)) (.cons (.lit (.int 0)) (.cons (.lit (.int 3)) (.cons (.lit (.int 1)) .nil)))))) .nil)))))) .nil)))
def F__law_first_k17 : Fn := mkFn [F_seen_from, F_cheapest, F_depth_for, F_by_turns, F_last_places, F_all_rows, F_count_others, F_first_fault, F_waiting, F_overlap_row] 2 2 b__law_first_k17
def b_law_k17 : St := (.cons (.asg 1 (.call 9 (.cons (.var 0) .nil))) (.cons (.par [2, 3] (.cons (.list (.cons (.lit (.int 0)) (.cons (.lit (.int 1)) (.cons (.lit (.int 2)) (.cons (.lit (.int 3)) .nil))))) (.cons (.list (.cons (.lit (.int 1)) (.cons (.lit (.int 3)) (.cons (.lit (.int 0)) (.cons (.lit (.int 2)) .nil))))) .nil))) (.cons (.ife (.ors (.cons (.not (.call 8 (.cons (.var 2) (.cons (.var 3) .nil)))) (.cons (.not (.call 7 (.cons (.list (.cons (.lit (.str "a")) (.cons (.lit (.str "b")) (.cons (.lit (.str "c")) .nil)))) (.cons (.list (.cons (.lit (.str "b")) (.cons (.lit (.str "d")) .nil))) .nil)))) .nil))) (.cons (.ret (.lit (.bl false))) .nil) .nil) (.cons (.asg 4 (.make 6 (.cons (.var 2) (.cons (.var 3) .nil)))) (.cons (.ife (.ors (.cons (.cmp .ne (.mcall 5 (.var 4) (.cons (.lit (.int 1)) .nil)) (.lit (.int 1))) (.cons (.cmp .ne (.mcall 4 (.var 4) .nil) (.list (.cons (.lit (.int 1)) .nil))) .nil))) (.cons (.ret (.lit (.bl false))) .nil) .nil) (.cons (.asg 5 (.sub (.lit (.str "abcdefghij")) (.call 3 (.cons (.var 1) (.cons (.lit (.int 10)) .nil))))) (.cons (.ret (.ands (.cons (.cmp .eq (.call 2 (.cons (.list (.cons (.list (.cons (.var 5) .nil)) .nil)) .nil)) (.list (.cons (.var 5) .nil))) (.cons (.cmp .eq (.call 1 (.cons (.list (.cons (.var 5) .nil)) (.cons (.list (.cons (.var 5) .nil)) .nil))) (.tuple (.cons (.lit (.int 0)) (.cons (.lit (.int 0)) .nil)))) (.cons (.cmp .eq (.call 0 (.cons (.list (.cons (.lit (.int 0)) .nil)) (.cons (.list (.cons (.lit (.int 0)) .nil)) .nil))) (.list (.cons (.lit (.int 1)) .nil))) .nil))))) .nil)))))))
def F_law_k17 : Fn := mkFn [F_overlap_row, F_distance_range, F_turns, F__law_draw, F_Reader_waits, F_Reader_read, F_Reader___init__, F__law_second_k17, F__law_first_k17, F__law_start] 1 6 b_law_k17
def b__law_error : St := (.cons (.asg 1 (.list (.cons (.isX 0 (.var 0)) (.cons (.isX 1 (.var 0)) (.cons (.isX 2 (.var 0)) .nil))))) (.cons (.asg 1 (.bin .add (.var 1) (.list (.cons (.isX 3 (.var 0)) (.cons (.isX 4 (.var 0)) (.cons (.isX 5 (.var 0)) .nil)))))) (.cons (.ife (.ors (.cons (.cmp .ne (.meth .count (.var 1) (.lit (.bl true))) (.lit (.int 1))) (.cons (.not (.isX 6 (.var 0))) (.cons (.not (.isX 7 (.var 0))) .nil)))) (.cons (.ret (.lit (.str "odd"))) .nil) .nil) (.cons (.ret (.sub (.list (.cons (.lit (.str "list")) (.cons (.lit (.str "number")) (.cons (.lit (.str "row")) (.cons (.lit (.str "short")) (.cons (.lit (.str "text")) (.cons (.lit (.str "none")) .nil))))))) (.meth .index (.var 1) (.lit (.bl true))))) .nil))))
def F__law_error : Fn := mkFn [] 1 2 b__law_error
def b_parse_full : St := (.cons (.ife (.ors (.cons (.not (.isI .str (.var 0))) (.cons (.not (.b1 .all (.comp (.cmp .isin (.var 1) (.gcon "DIGITS" (.str "0123456789"))) (.one 1) (.istr (.var 0)) .absent [1]))) .nil))) (.cons (.raise 4) .nil) .nil) (.cons (.asg 2 (.comp (.b1 .int (.var 1)) (.one 1) (.istr (.var 0)) .absent [1])) (.cons (.ife (.not (.call 0 (.cons (.var 2) .nil))) (.cons (.raise 4) .nil) .nil) (.cons (.ret (.var 2)) .nil))))
def F_parse_full : Fn := mkFn [F_is_full] 1 3 b_parse_full
def b_parse_short : St := (.cons (.ife (.ors (.cons (.not (.isI .str (.var 0))) (.cons (.cmp .ne (.slice (.var 0) (.opt (.neg (.lit (.int 3)))) .absent) (.lit (.str ">.."))) .nil))) (.cons (.raise 4) .nil) .nil) (.cons (.asg 1 (.meth .split (.slice (.var 0) .absent (.opt (.neg (.lit (.int 3))))) (.lit (.str ">")))) (.cons (.ife (.not (.call 0 (.cons (.var 1) .nil))) (.cons (.raise 4) .nil) .nil) (.cons (.ret (.var 1)) .nil))))
def F_parse_short : Fn := mkFn [F_is_short] 1 2 b_parse_short
def b__law_parsed : St := (.cons (.asg 2 (.lit .non)) (.cons (.asg 3 (.lit .non)) (.cons (.tryc (.cons (.asg 2 (.ife (.cmp .eq (.var 0) (.lit (.int 0))) (.call 1 (.cons (.var 1) .nil)) (.call 2 (.cons (.var 1) .nil)))) .nil) 4 3) (.cons (.ret (.ife (.isn (.var 3)) (.var 2) (.call 0 (.cons (.var 3) .nil)))) .nil))))
def F__law_parsed : Fn := mkFn [F__law_error, F_parse_full, F_parse_short] 2 5 b__law_parsed
def b__law_rejected : St := (.cons (.asg 0 (.list (.cons (.lit .non) (.cons (.lit (.int 5)) (.cons (.lit (.str "")) (.cons (.lit (.str " ")) (.cons (.lit (.str "1")) (.cons (.lit (.str "00")) (.cons (.lit (.str "02")) (.cons (.lit (.str "0 1")) (.cons (.lit (.str "0,1")) (.cons (.lit (.str "a")) (.cons (.lit (.str "-0")) (.cons (.lit (.str "01234567")) (.cons (.list (.cons (.lit (.str "0")) .nil)) (.cons (.lit (.str "0.")) .nil)))))))))))))))) (.cons (.ife (.ors (.cons (.cmp .ne (.comp (.call 0 (.cons (.lit (.int 0)) (.cons (.var 1) .nil))) (.one 1) (.iof (.var 0)) .absent [1]) (.bin .mul (.list (.cons (.lit (.str "text")) .nil)) (.lit (.int 14)))) (.cons (.cmp .ne (.call 0 (.cons (.lit (.int 0)) (.cons (.lit (.str "6543210")) .nil))) (.list (.cons (.lit (.int 6)) (.cons (.lit (.int 5)) (.cons (.lit (.int 4)) (.cons (.lit (.int 3)) (.cons (.lit (.int 2)) (.cons (.lit (.int 1)) (.cons (.lit (.int 0)) .nil))))))))) .nil))) (.cons (.ret (.lit (.bl false))) .nil) .nil) (.cons (.asg 0 (.list (.cons (.lit .non) (.cons (.lit (.int 5)) (.cons (.lit (.str "")) (.cons (.lit (.str ">..")) (.cons (.lit (.str "a")) (.cons (.lit (.str "a>")) (.cons (.lit (.str "a>.")) (.cons (.lit (.str "a>.>.")) (.cons (.lit (.str "a>b")) (.cons (.lit (.str ">a>..")) (.cons (.lit (.str "a>>b>..")) (.cons (.lit (.str "a>a>..")) (.cons (.lit (.str "k>..")) (.cons (.lit (.str "A>..")) (.cons (.lit (.str "ab>..")) (.cons (.lit (.str "a >..")) (.cons (.lit (.str "a>b>...")) (.cons (.lit (.str "a>b>c>d>e>f>g>..")) (.cons (.list (.cons (.lit (.str "a")) .nil)) .nil))))))))))))))))))))) (.cons (.ret (.ands (.cons (.cmp .eq (.comp (.call 0 (.cons (.lit (.int 1)) (.cons (.var 1) .nil))) (.one 1) (.iof (.var 0)) .absent [1]) (.bin .mul (.list (.cons (.lit (.str "text")) .nil)) (.lit (.int 19)))) (.cons (.cmp .eq (.call 0 (.cons (.lit (.int 1)) (.cons (.lit (.str "j>a>..")) .nil))) (.list (.cons (.lit (.str "j")) (.cons (.lit (.str "a")) .nil)))) .nil)))) .nil))))
def F__law_rejected : Fn := mkFn [F__law_parsed] 0 2 b__law_rejected
def b__law_written : St := (.cons (.ret (.ife (.cmp .eq (.var 0) (.lit (.int 0))) (.meth .join (.lit (.str "")) (.comp (.b1 .str (.var 2)) (.one 2) (.iof (.var 1)) .absent [2])) (.bin .add (.meth .join (.lit (.str ">")) (.var 1)) (.lit (.str ">.."))))) .nil)
def F__law_written : Fn := mkFn [] 2 3 b__law_written
def b_format_full : St := (.cons (.exp (.call 0 (.cons (.var 0) .nil))) (.cons (.ret (.meth .join (.lit (.str "")) (.comp (.b1 .str (.var 1)) (.one 1) (.iof (.var 0)) .absent [1]))) .nil))
def F_format_full : Fn := mkFn [F_check_full] 1 2 b_format_full
def b_law_k12 : St := (.cons (.asg 1 (.call 9 (.cons (.var 0) .nil))) (.cons (.asg 2 (.list (.cons (.call 8 (.cons (.var 1) (.cons (.bin .add (.lit (.int 1)) (.call 4 (.cons (.var 1) (.cons (.lit (.int 7)) .nil)))) .nil))) (.cons (.call 7 (.cons (.var 1) (.cons (.lit (.int 10)) .nil))) .nil)))) (.cons (.asg 3 (.list (.cons (.call 6 (.cons (.sub (.var 2) (.lit (.int 0))) .nil)) (.cons (.call 5 (.cons (.sub (.var 2) (.lit (.int 1))) .nil)) .nil)))) (.cons (.forr (.one 4) (.iof (.list (.cons (.lit (.int 0)) (.cons (.lit (.int 1)) .nil)))) (.cons (.ife (.ors (.cons (.cmp .ne (.sub (.var 3) (.var 4)) (.call 1 (.cons (.var 4) (.cons (.sub (.var 2) (.var 4)) .nil)))) (.cons (.cmp .ne (.call 2 (.cons (.var 4) (.cons (.sub (.var 3) (.var 4)) .nil))) (.sub (.var 2) (.var 4))) .nil))) (.cons (.ret (.lit (.bl false))) .nil) .nil) (.cons (.forr (.one 5) (.irng1 (.lit (.int 10))) (.cons (.asg 6 (.sub (.var 3) (.var 4))) (.cons (.asg 7 (.call 4 (.cons (.var 1) (.cons (.bin .add (.b1 .len (.var 6)) (.lit (.int 1))) .nil)))) (.cons (.asg 8 (.call 3 (.cons (.var 1) (.cons (.list (.cons (.lit (.str "0")) (.cons (.lit (.str "1")) (.cons (.lit (.str "a")) (.cons (.lit (.str "j")) (.cons (.lit (.str " ")) (.cons (.lit (.str ">")) (.cons (.lit (.str ".")) (.cons (.lit (.str "x")) (.cons (.lit (.str "")) .nil)))))))))) .nil)))) (.cons (.asg 9 (.call 3 (.cons (.var 1) (.cons (.list (.cons (.bin .add (.bin .add (.slice (.var 6) .absent (.opt (.var 7))) (.var 8)) (.slice (.var 6) (.opt (.bin .add (.var 7) (.lit (.int 1)))) .absent)) (.cons (.bin .add (.bin .add (.slice (.var 6) .absent (.opt (.var 7))) (.var 8)) (.slice (.var 6) (.opt (.var 7)) .absent)) .nil))) .nil)))) (.cons (.asg 10 (.call 2 (.cons (.var 4) (.cons (.var 9) .nil)))) (.cons (.ife (.ands (.cons (.cmp .ne (.var 10) (.lit (.str "text"))) (.cons (.cmp .ne (.var 9) (.call 1 (.cons (.var 4) (.cons (.var 10) .nil)))) .nil))) (.cons (.ret (.lit (.bl false))) .nil) .nil) .nil))))))) .nil))) (.cons (.ret (.call 0 .nil)) .nil)))))
def F_law_k12 : Fn := mkFn [F__law_rejected, F__law_written, F__law_parsed, F__law_pick, F__law_draw, F_format_short, F_format_full, F__law_short, F__law_list, F__law_start] 1 11 b_law_k12
def b_Reader_seen : St := (.cons (.par [1, 2] (.cons (.slice (.sub (.fld (.var 0) 0) (.lit (.int 0))) .absent (.opt (.sub (.fld (.var 0) 1) (.lit (.int 0))))) (.cons (.slice (.sub (.fld (.var 0) 0) (.lit (.int 1))) .absent (.opt (.sub (.fld (.var 0) 1) (.lit (.int 1))))) .nil))) (.cons (.ret (.b1 .sorted (.comp (.var 3) (.one 3) (.iof (.var 1)) (.opt (.cmp .isin (.var 3) (.var 2))) [3]))) .nil))
def F_Reader_seen : Fn := mkFn [] 1 4 b_Reader_seen
def b_Reader_undo : St := (.cons (.ife (.cmpc .eq (.fld (.var 0) 2) (.list .nil)) (.cons (.raise 5) .nil) .nil) (.cons (.asg 1 (.popc (.fld (.var 0) 2))) (.cons (.augc (.fld (.var 0) 1) (.var 1) .sub (.lit (.int 1))) (.cons (.ret (.var 1)) .nil))))
def F_Reader_undo : Fn := mkFn [] 1 2 b_Reader_undo
def b__law_call_k11 : St := (.cons (.asg 3 (.lit .non)) (.cons (.asg 4 (.lit .non)) (.cons (.tryc (.cons (.asg 3 (.ife (.cmp .eq (.var 1) (.lit (.int 0))) (.mcall 1 (.var 0) (.cons (.var 2) .nil)) (.mcall 2 (.var 0) .nil))) .nil) 5 4) (.cons (.ret (.ife (.isn (.var 4)) (.var 3) (.call 0 (.cons (.var 4) .nil)))) .nil))))
def F__law_call_k11 : Fn := mkFn [F__law_error, F_Reader_read, F_Reader_undo] 3 6 b__law_call_k11
def b_Reader___len__ : St := (.cons (.ret (.b1 .len (.fld (.var 0) 2))) .nil)
def F_Reader___len__ : Fn := mkFn [] 1 1 b_Reader___len__
def b_Reader_depth : St := (.cons (.ret (.b1 .tuple (.fld (.var 0) 1))) .nil)
def F_Reader_depth : Fn := mkFn [] 1 1 b_Reader_depth
def b_law_k11 : St := (.cons (.asg 1 (.call 8 (.cons (.var 0) .nil))) (.cons (.asg 2 (.bin .add (.lit (.int 1)) (.call 5 (.cons (.var 1) (.cons (.lit (.int 7)) .nil))))) (.cons (.asg 3 (.list (.cons (.call 7 (.cons (.var 1) (.cons (.var 2) .nil))) (.cons (.call 7 (.cons (.var 1) (.cons (.var 2) .nil))) .nil)))) (.cons (.par [4, 5, 6] (.cons (.make 6 (.cons (.sub (.var 3) (.lit (.int 0))) (.cons (.sub (.var 3) (.lit (.int 1))) .nil))) (.cons (.clist (.cons (.lit (.int 0)) (.cons (.lit (.int 0)) .nil))) (.cons (.list .nil) .nil)))) (.cons (.forr (.one 7) (.irng1 (.lit (.int 20))) (.cons (.ife (.cmp .gt (.call 5 (.cons (.var 1) (.cons (.lit (.int 4)) .nil))) (.lit (.int 0))) (.cons (.asg 8 (.call 5 (.cons (.var 1) (.cons (.lit (.int 2)) .nil)))) (.cons (.asg 9 (.call 2 (.cons (.var 4) (.cons (.lit (.int 0)) (.cons (.var 8) .nil))))) (.cons (.ife (.cmp .eq (.sub (.var 5) (.var 8)) (.var 2)) (.cons (.ife (.cmp .ne (.var 9) (.lit (.str "none"))) (.cons (.ret (.lit (.bl false))) .nil) .nil) .nil) (.cons (.setc (.var 5) (.var 8) (.bin .add (.sub (.var 5) (.var 8)) (.lit (.int 1)))) (.cons (.asg 6 (.bin .add (.var 6) (.list (.cons (.var 8) .nil)))) (.cons (.ife (.cmp .ne (.var 9) (.sub (.sub (.var 3) (.var 8)) (.bin .sub (.sub (.var 5) (.var 8)) (.lit (.int 1))))) (.cons (.ret (.lit (.bl false))) .nil) .nil) .nil)))) .nil))) (.cons (.ife (.cmp .eq (.var 6) (.list .nil)) (.cons (.ife (.cmp .ne (.call 2 (.cons (.var 4) (.cons (.lit (.int 1)) (.cons (.lit (.int 0)) .nil)))) (.lit (.str "none"))) (.cons (.ret (.lit (.bl false))) .nil) .nil) .nil) (.cons (.ife (.cmp .ne (.call 2 (.cons (.var 4) (.cons (.lit (.int 1)) (.cons (.lit (.int 0)) .nil)))) (.sub (.var 6) (.neg (.lit (.int 1))))) (.cons (.ret (.lit (.bl false))) .nil) .nil) (.cons (.setc (.var 5) (.sub (.var 6) (.neg (.lit (.int 1)))) (.bin .sub (.sub (.var 5) (.sub (.var 6) (.neg (.lit (.int 1))))) (.lit (.int 1)))) (.cons (.asg 6 (.slice (.var 6) .absent (.opt (.neg (.lit (.int 1)))))) .nil)))) .nil)) (.cons (.par [10, 11] (.cons (.slice (.sub (.var 3) (.lit (.int 0))) .absent (.opt (.sub (.var 5) (.lit (.int 0))))) (.cons (.slice (.sub (.var 3) (.lit (.int 1))) .absent (.opt (.sub (.var 5) (.lit (.int 1))))) .nil))) (.cons (.ife (.cmp .ne (.mcall 1 (.var 4) .nil) (.comp (.var 12) (.one 12) (.irng1 (.var 2)) (.opt (.ands (.cons (.cmp .isin (.var 12) (.var 10)) (.cons (.cmp .isin (.var 12) (.var 11)) .nil)))) [12])) (.cons (.ret (.lit (.bl false))) .nil) .nil) (.cons (.ife (.cmp .ne (.mcall 0 (.var 4) .nil) (.comp (.var 12) (.one 12) (.irng1 (.var 2)) (.opt (.cmp .ne (.cmp .isin (.var 12) (.var 10)) (.cmp .isin (.var 12) (.var 11)))) [12])) (.cons (.ret (.lit (.bl false))) .nil) .nil) (.cons (.ife (.ors (.cons (.cmp .ne (.mcall 4 (.var 4) .nil) (.tuple (.cons (.sub (.var 5) (.lit (.int 0))) (.cons (.sub (.var 5) (.lit (.int 1))) .nil)))) (.cons (.cmp .ne (.lenr 3 (.var 4)) (.b1 .len (.var 6))) (.cons (.cmp .ne (.call 2 (.cons (.var 4) (.cons (.lit (.int 0)) (.cons (.lit (.int 2)) .nil)))) (.lit (.str "number"))) .nil)))) (.cons (.ret (.lit (.bl false))) .nil) .nil) .nil)))))) (.cons (.ret (.ands (.cons (.cmp .le (.b1 .len (.mcall 1 (.var 4) .nil)) (.b1 .min (.var 5))) (.cons (.cmp .eq (.bin .add (.b1 .len (.mcall 0 (.var 4) .nil)) (.bin .mul (.lit (.int 2)) (.b1 .len (.mcall 1 (.var 4) .nil)))) (.b1 .sum (.var 5))) .nil)))) .nil))))))
def F_law_k11 : Fn := mkFn [F_Reader_waits, F_Reader_seen, F__law_call_k11, F_Reader___len__, F_Reader_depth, F__law_draw, F_Reader___init__, F__law_list, F__law_start] 1 13 b_law_k11
def b_count_rows : St := (.cons (.ife (.not (.call 0 (.cons (.var 0) (.cons (.lit (.int 1)) (.cons (.lit (.int 20)) .nil))))) (.cons (.raise 1) .nil) .nil) (.cons (.asg 1 (.list (.cons (.lit (.int 1)) .nil))) (.cons (.forr (.one 2) (.irng1 (.var 0)) (.cons (.asgm 3 (.bin .mul (.list (.cons (.lit (.int 0)) .nil)) (.bin .add (.b1 .len (.var 1)) (.lit (.int 1))))) (.cons (.forr (.tup [4, 5]) (.ienum (.var 1)) (.cons (.forr (.one 6) (.itup (.tuple (.cons (.lit (.int 0)) (.cons (.lit (.int 1)) (.cons (.lit (.int 2)) .nil))))) (.cons (.ife (.cmp .ge (.bin .sub (.bin .add (.var 4) (.lit (.int 1))) (.var 6)) (.lit (.int 0))) (.cons (.augs 3 (.bin .sub (.bin .add (.var 4) (.lit (.int 1))) (.var 6)) .add (.var 5)) .nil) .nil) .nil)) .nil)) (.cons (.mov 1 3) .nil)))) (.cons (.ret (.sub (.var 1) (.lit (.int 0)))) .nil))))
def F_count_rows : Fn := mkFn [F_is_int] 1 7 b_count_rows
def b_rows_with_total : St := (.cons (.exp (.call 2 (.cons (.var 0) .nil))) (.cons (.ife (.not (.call 1 (.cons (.var 1) (.cons (.lit (.int 0)) (.cons (.lit (.int 100)) .nil))))) (.cons (.raise 1) .nil) .nil) (.cons (.asg 2 (.comp (.var 3) (.one 3) (.iof (.call 0 (.cons (.var 0) .nil))) (.opt (.cmp .eq (.b1 .sum (.var 3)) (.var 1))) [3])) (.cons (.ife (.cmp .eq (.var 2) (.list .nil)) (.cons (.raise 5) .nil) .nil) (.cons (.ret (.var 2)) .nil)))))
def F_rows_with_total : Fn := mkFn [F_rows_of, F_is_int, F_check_size] 2 4 b_rows_with_total
def b__law_total : St := (.cons (.asg 2 (.lit .non)) (.cons (.asg 3 (.lit .non)) (.cons (.tryc (.cons (.asg 2 (.call 1 (.cons (.var 0) (.cons (.var 1) .nil)))) .nil) 4 3) (.cons (.ret (.ife (.isn (.var 3)) (.var 2) (.call 0 (.cons (.var 3) .nil)))) .nil))))
def F__law_total : Fn := mkFn [F__law_error, F_rows_with_total] 2 5 b__law_total
def b_law_k03 : St := (.cons (.asg 1 (.call 9 (.cons (.var 0) .nil))) (.cons (.asg 2 (.bin .add (.lit (.int 1)) (.call 2 (.cons (.var 1) (.cons (.lit (.int 7)) .nil))))) (.cons (.asg 3 (.call 8 (.cons (.var 2) .nil))) (.cons (.asgm 4 (.b1 .list (.call 7 (.cons (.var 1) (.cons (.var 3) .nil))))) (.cons (.forr (.one 5) (.irng1 (.call 2 (.cons (.var 1) (.cons (.lit (.int 3)) .nil)))) (.cons (.asg 6 (.call 2 (.cons (.var 1) (.cons (.var 2) .nil)))) (.cons (.seti 4 (.var 6) (.b2 .max (.lit (.int 0)) (.b2 .min (.lit (.int 7)) (.bin .sub (.bin .add (.sub (.bvar 4) (.var 6)) (.call 2 (.cons (.var 1) (.cons (.lit (.int 3)) .nil)))) (.lit (.int 1)))))) .nil))) (.cons (.asg 7 (.callb 6 (.cons (.bvar 4) .nil))) (.cons (.asg 8 (.comp (.var 9) (.one 9) (.irng2 (.lit (.int 1)) (.bin .add (.var 2) (.lit (.int 1)))) (.opt (.cmp .eq (.comp (.var 10) (.one 10) (.iof (.var 3)) (.opt (.cmp .eq (.slice (.var 10) .absent (.opt (.var 9))) (.slice (.bvar 4) .absent (.opt (.var 9))))) [10]) (.list .nil))) [9])) (.cons (.ife (.ors (.cons (.cmp .ne (.var 7) (.ife (.cmp .ne (.var 8) (.list .nil)) (.sub (.var 8) (.lit (.int 0))) (.lit .non))) (.cons (.not (.call 4 (.cons (.callb 5 (.cons (.bvar 4) .nil)) (.cons (.cmp .eq (.var 8) (.list .nil)) .nil)))) .nil))) (.cons (.ret (.lit (.bl false))) .nil) .nil) (.cons (.asg 11 (.call 2 (.cons (.var 1) (.cons (.lit (.int 30)) .nil)))) (.cons (.asg 12 (.comp (.var 10) (.one 10) (.iof (.var 3)) (.opt (.cmp .eq (.b1 .sum (.var 10)) (.var 11))) [10])) (.cons (.ife (.cmp .ne (.call 3 (.cons (.var 2) (.cons (.var 11) .nil))) (.ife (.cmp .ne (.var 12) (.list .nil)) (.var 12) (.lit (.str "none")))) (.cons (.ret (.lit (.bl false))) .nil) .nil) (.cons (.forr (.one 10) (.iof (.var 3)) (.cons (.ife (.cmp .ne (.sub (.var 10) (.neg (.lit (.int 1)))) (.var 2)) (.cons (.ret (.lit (.bl false))) .nil) .nil) (.cons (.ife (.cmp .ne (.comp (.var 9) (.one 9) (.irng2 (.lit (.int 1)) (.bin .add (.var 2) (.lit (.int 1)))) (.opt (.not (.chain .le .le (.bin .sub (.bin .mul (.lit (.int 2)) (.var 9)) (.var 2)) (.sub (.var 10) (.bin .sub (.var 9) (.lit (.int 1)))) (.var 9)))) [9]) (.list .nil)) (.cons (.ret (.lit (.bl false))) .nil) .nil) .nil))) (.cons (.asg 13 (.bin .add (.lit (.int 3)) (.call 2 (.cons (.var 1) (.cons (.lit (.int 18)) .nil))))) (.cons (.asgm 14 (.list (.cons (.lit (.int 1)) (.cons (.lit (.int 1)) (.cons (.lit (.int 2)) .nil))))) (.cons (.forr (.one 15) (.irng2 (.lit (.int 3)) (.bin .add (.var 13) (.lit (.int 1)))) (.cons (.asg 16 (.bin .add (.bin .mul (.bin .add (.bin .mul (.lit (.int 2)) (.var 15)) (.lit (.int 1))) (.sub (.bvar 14) (.bin .sub (.var 15) (.lit (.int 1))))) (.bin .mul (.bin .mul (.lit (.int 3)) (.bin .sub (.var 15) (.lit (.int 1)))) (.sub (.bvar 14) (.bin .sub (.var 15) (.lit (.int 2))))))) (.cons (.app 14 (.bin .fdiv (.var 16) (.bin .add (.var 15) (.lit (.int 2))))) .nil))) (.cons (.asg 17 (.lit (.int 1))) (.cons (.forr (.one 9) (.irng2 (.lit (.int 2)) (.bin .add (.var 2) (.lit (.int 1)))) (.cons (.asg 17 (.bin .mul (.var 17) (.var 9))) .nil)) (.cons (.ret (.ands (.cons (.cmp .eq (.call 1 (.cons (.var 13) .nil)) (.sub (.bvar 14) (.var 13))) (.cons (.cmp .eq (.b1 .sum (.comp (.call 0 (.cons (.var 10) .nil)) (.one 10) (.iof (.var 3)) .absent [10])) (.var 17)) .nil)))) .nil))))))))))))))))))
def F_law_k03 : Fn := mkFn [F_count_others, F_count_rows, F__law_draw, F__law_total, F__law_true, F_is_row, F_first_fault, F__law_pick, F_all_rows, F__law_start] 1 18 b_law_k03
def b__law_fair : St := (.cons (.asg 4 (.lit .non)) (.cons (.asg 5 (.lit .non)) (.cons (.tryc (.cons (.asg 4 (.call 1 (.cons (.var 1) (.cons (.var 2) (.cons (.var 3) .nil))))) .nil) 6 5) (.cons (.ret (.ife (.isn (.var 5)) (.var 4) (.call 0 (.cons (.var 5) .nil)))) .nil))))
def F__law_fair : Fn := mkFn [F__law_error, F_fair_at] 4 7 b__law_fair
def b__law_all : St := (.cons (.asg 1 (.list (.cons (.list .nil) .nil))) (.cons (.forr (.one 2) (.irng1 (.var 0)) (.cons (.asg 3 (.list .nil)) (.cons (.forr (.one 4) (.iof (.var 1)) (.cons (.asg 3 (.bin .add (.var 3) (.comp (.bin .add (.var 4) (.list (.cons (.var 5) .nil))) (.one 5) (.irng1 (.var 0)) (.opt (.cmp .notin (.var 5) (.var 4))) [5]))) .nil)) (.cons (.asg 1 (.var 3)) .nil)))) (.cons (.ret (.var 1)) .nil)))
def F__law_all : Fn := mkFn [] 1 6 b__law_all
def b_law_k04 : St := (.cons (.asg 1 (.call 10 (.cons (.var 0) .nil))) (.cons (.asg 2 (.bin .add (.lit (.int 1)) (.call 4 (.cons (.var 1) (.cons (.lit (.int 6)) .nil))))) (.cons (.par [3, 4, 5] (.cons (.call 9 (.cons (.var 1) (.cons (.var 2) .nil))) (.cons (.call 9 (.cons (.var 1) (.cons (.var 2) .nil))) (.cons (.call 9 (.cons (.var 1) (.cons (.var 2) .nil))) .nil)))) (.cons (.asgm 6 (.list .nil)) (.cons (.forr (.one 7) (.iof (.call 7 (.cons (.var 2) .nil))) (.cons (.asg 8 (.comp (.var 9) (.one 9) (.irng2 (.lit (.int 1)) (.bin .add (.var 2) (.lit (.int 1)))) (.opt (.cmp .ne (.comp (.var 10) (.one 10) (.iof (.bin .add (.slice (.var 3) .absent (.opt (.var 9))) (.slice (.var 4) .absent (.opt (.var 9))))) (.opt (.cmp .notin (.var 10) (.slice (.var 7) .absent (.opt (.bin .mul (.lit (.int 2)) (.var 9)))))) [10]) (.list .nil))) [9])) (.cons (.ife (.cmp .eq (.var 8) (.list .nil)) (.cons (.app 6 (.var 7)) .nil) .nil) (.cons (.ife (.ands (.cons (.cmp .eq (.var 7) (.var 5)) (.cons (.cmp .ne (.call 8 (.cons (.var 3) (.cons (.var 4) (.cons (.var 5) .nil)))) (.ife (.cmp .ne (.var 8) (.list .nil)) (.sub (.var 8) (.lit (.int 0))) (.lit .non))) .nil))) (.cons (.ret (.lit (.bl false))) .nil) .nil) .nil)))) (.cons (.ife (.ors (.cons (.not (.call 5 (.cons (.call 6 (.cons (.var 3) (.cons (.var 4) (.cons (.var 5) .nil)))) (.cons (.cmp .isin (.var 5) (.bvar 6)) .nil)))) (.cons (.cmp .ne (.call 0 (.cons (.var 3) (.cons (.var 4) .nil))) (.b1 .len (.bvar 6))) (.cons (.cmp .eq (.bvar 6) (.list .nil)) .nil)))) (.cons (.ret (.lit (.bl false))) .nil) .nil) (.cons (.forr (.one 11) (.iof (.list (.cons (.lit (.int 0)) (.cons (.bin .sub (.b1 .len (.bvar 6)) (.lit (.int 1))) (.cons (.call 4 (.cons (.var 1) (.cons (.b1 .len (.bvar 6)) .nil))) .nil))))) (.cons (.ife (.cmp .ne (.call 3 (.cons (.var 1) (.cons (.var 3) (.cons (.var 4) (.cons (.var 11) .nil))))) (.sub (.bvar 6) (.var 11))) (.cons (.ret (.lit (.bl false))) .nil) .nil) .nil)) (.cons (.ife (.cmp .ne (.call 3 (.cons (.var 1) (.cons (.var 3) (.cons (.var 4) (.cons (.b1 .len (.bvar 6)) .nil))))) (.lit (.str "number"))) (.cons (.ret (.lit (.bl false))) .nil) .nil) (.cons (.asg 12 (.call 2 (.cons (.var 3) (.cons (.var 4) .nil)))) (.cons (.forr (.one 10) (.irng1 (.var 2)) (.cons (.ife (.cmp .ne (.sub (.var 12) (.var 10)) (.b1 .max (.comp (.bin .add (.meth .index (.var 7) (.var 10)) (.lit (.int 1))) (.one 7) (.iof (.bvar 6)) .absent [7]))) (.cons (.ret (.lit (.bl false))) .nil) .nil) .nil)) (.cons (.ife (.cmp .ne (.cmp .isin (.var 5) (.bvar 6)) (.cmp .eq (.comp (.var 10) (.one 10) (.irng1 (.var 2)) (.opt (.cmp .ge (.meth .index (.var 5) (.var 10)) (.sub (.var 12) (.var 10)))) [10]) (.list .nil))) (.cons (.ret (.lit (.bl false))) .nil) .nil) (.cons (.asg 13 (.call 1 (.cons (.var 3) (.cons (.var 4) .nil)))) (.cons (.asg 14 (.list .nil)) (.cons (.forr (.one 15) (.irng1 (.var 2)) (.cons (.forr (.one 10) (.itup (.tuple (.cons (.sub (.var 3) (.var 15)) (.cons (.sub (.var 4) (.var 15)) .nil)))) (.cons (.ife (.cmp .notin (.var 10) (.var 14)) (.cons (.asg 14 (.bin .add (.var 14) (.list (.cons (.var 10) .nil)))) .nil) .nil) .nil)) .nil)) (.cons (.ret (.ands (.cons (.cmp .eq (.var 13) (.var 14)) (.cons (.cmp .isin (.var 13) (.bvar 6)) (.cons (.cmp .eq (.call 0 (.cons (.var 4) (.cons (.var 3) .nil))) (.b1 .len (.bvar 6))) .nil))))) .nil)))))))))))))))
def F_law_k04 : Fn := mkFn [F_count_fair, F_by_turns, F_last_places, F__law_fair, F__law_draw, F__law_true, F_is_fair_list, F__law_all, F_first_unfair, F__law_list, F__law_start] 1 16 b_law_k04
def b__law_single_k15 : St := (.cons (.ife (.cmp .eq (.var 0) (.lit (.int 0))) (.cons (.ret (.call 6 (.cons (.var 1) .nil))) .nil) .nil) (.cons (.ife (.cmp .eq (.var 0) (.lit (.int 1))) (.cons (.ret (.call 5 (.cons (.var 1) .nil))) .nil) .nil) (.cons (.ife (.cmp .eq (.var 0) (.lit (.int 2))) (.cons (.ret (.call 4 (.cons (.var 1) .nil))) .nil) .nil) (.cons (.ife (.cmp .eq (.var 0) (.lit (.int 3))) (.cons (.ret (.call 3 (.cons (.var 1) (.cons (.var 2) .nil)))) .nil) .nil) (.cons (.ife (.cmp .eq (.var 0) (.lit (.int 4))) (.cons (.ret (.call 2 (.cons (.var 1) (.cons (.var 2) (.cons (.lit (.int 0)) .nil))))) .nil) .nil) (.cons (.ife (.cmp .eq (.var 0) (.lit (.int 5))) (.cons (.ret (.call 2 (.cons (.var 1) (.cons (.lit (.int 0)) (.cons (.var 2) .nil))))) .nil) .nil) (.cons (.ret (.ife (.cmp .eq (.var 0) (.lit (.int 6))) (.call 0 (.cons (.var 1) (.cons (.var 2) .nil))) (.call 1 (.cons (.var 1) (.cons (.var 2) .nil))))) .nil)))))))
def F__law_single_k15 : Fn := mkFn [F_without_thing, F_other_with, F_moved, F_exchanged, F_format_full, F_backward, F_places] 3 3 b__law_single_k15
def b__law_two_k15 : St := (.cons (.ife (.cmp .eq (.var 0) (.lit (.int 0))) (.cons (.ret (.call 13 (.cons (.var 1) (.cons (.var 2) .nil)))) .nil) .nil) (.cons (.ife (.cmp .eq (.var 0) (.lit (.int 1))) (.cons (.ret (.call 12 (.cons (.var 1) (.cons (.var 2) .nil)))) .nil) .nil) (.cons (.ife (.cmp .eq (.var 0) (.lit (.int 2))) (.cons (.ret (.call 11 (.cons (.var 1) (.cons (.var 2) .nil)))) .nil) .nil) (.cons (.ife (.cmp .eq (.var 0) (.lit (.int 3))) (.cons (.ret (.call 10 (.cons (.var 1) (.cons (.var 2) .nil)))) .nil) .nil) (.cons (.ife (.cmp .eq (.var 0) (.lit (.int 4))) (.cons (.ret (.call 9 (.cons (.var 1) (.cons (.var 2) .nil)))) .nil) .nil) (.cons (.ife (.cmp .eq (.var 0) (.lit (.int 5))) (.cons (.ret (.call 8 (.cons (.var 1) (.cons (.var 2) .nil)))) .nil) .nil) (.cons (.ife (.cmp .eq (.var 0) (.lit (.int 6))) (.cons (.ret (.call 7 (.cons (.var 1) (.cons (.var 2) .nil)))) .nil) .nil) (.cons (.ife (.cmp .eq (.var 0) (.lit (.int 7))) (.cons (.ret (.call 6 (.cons (.var 1) (.cons (.var 2) .nil)))) .nil) .nil) (.cons (.ife (.cmp .eq (.var 0) (.lit (.int 8))) (.cons (.ret (.call 5 (.cons (.var 1) (.cons (.var 2) .nil)))) .nil) .nil) (.cons (.ife (.cmp .eq (.var 0) (.lit (.int 9))) (.cons (.ret (.call 4 (.cons (.var 1) (.cons (.var 2) .nil)))) .nil) .nil) (.cons (.ife (.cmp .eq (.var 0) (.lit (.int 10))) (.cons (.ret (.call 3 (.cons (.var 1) (.cons (.var 2) .nil)))) .nil) .nil) (.cons (.ife (.cmp .eq (.var 0) (.lit (.int 11))) (.cons (.ret (.make 2 (.cons (.var 1) (.cons (.var 2) .nil)))) .nil) .nil) (.cons (.ife (.cmp .eq (.var 0) (.lit (.int 12))) (.cons (.ret (.call 1 (.cons (.var 1) (.cons (.var 2) (.cons (.var 1) .nil))))) .nil) .nil) (.cons (.ret (.ife (.cmp .eq (.var 0) (.lit (.int 13))) (.call 0 (.cons (.var 1) (.cons (.var 1) (.cons (.var 2) .nil)))) (.call 1 (.cons (.var 1) (.cons (.var 1) (.cons (.var 2) .nil)))))) .nil))))))))))))))
def F__law_two_k15 : Fn := mkFn [F_first_unfair, F_is_fair_list, F_Reader___init__, F_seen_from, F_renamed, F_empty_depth, F_full_depths, F_meeting_order, F_count_fair, F_by_turns, F_last_places, F_mean_overlap, F_new_common, F_overlap_row] 3 3 b__law_two_k15
def b__law_three_k15 : St := (.cons (.ife (.cmp .eq (.var 0) (.lit (.int 0))) (.cons (.ret (.call 8 (.cons (.var 1) (.cons (.var 2) (.cons (.var 3) .nil))))) .nil) .nil) (.cons (.ife (.cmp .eq (.var 0) (.lit (.int 1))) (.cons (.ret (.call 7 (.cons (.var 1) (.cons (.var 2) (.cons (.var 3) .nil))))) .nil) .nil) (.cons (.ife (.cmp .eq (.var 0) (.lit (.int 2))) (.cons (.ret (.call 6 (.cons (.var 1) (.cons (.var 2) (.cons (.var 3) .nil))))) .nil) .nil) (.cons (.ife (.cmp .eq (.var 0) (.lit (.int 3))) (.cons (.ret (.call 5 (.cons (.var 1) (.cons (.var 2) (.cons (.var 3) .nil))))) .nil) .nil) (.cons (.ife (.cmp .eq (.var 0) (.lit (.int 4))) (.cons (.ret (.call 4 (.cons (.var 1) (.cons (.var 2) (.cons (.var 3) .nil))))) .nil) .nil) (.cons (.ife (.cmp .eq (.var 0) (.lit (.int 5))) (.cons (.ret (.call 3 (.cons (.var 1) (.cons (.var 2) (.cons (.var 3) .nil))))) .nil) .nil) (.cons (.ife (.cmp .eq (.var 0) (.lit (.int 6))) (.cons (.ret (.call 2 (.cons (.var 1) (.cons (.var 2) (.cons (.var 3) .nil))))) .nil) .nil) (.cons (.ife (.cmp .eq (.var 0) (.lit (.int 7))) (.cons (.ret (.call 1 (.cons (.var 1) (.cons (.var 2) (.cons (.var 3) .nil))))) .nil) .nil) (.cons (.ife (.cmp .eq (.var 0) (.lit (.int 8))) (.cons (.ret (.call 0 (.cons (.var 1) (.cons (.var 2) (.cons (.var 3) (.cons (.lit (.int 1)) (.cons (.lit (.int 1)) .nil))))))) .nil) .nil) (.cons (.ife (.cmp .eq (.var 0) (.lit (.int 9))) (.cons (.ret (.call 0 (.cons (.var 1) (.cons (.var 2) (.cons (.lit (.int 1)) (.cons (.var 3) (.cons (.lit (.int 1)) .nil))))))) .nil) .nil) (.cons (.ret (.call 0 (.cons (.var 1) (.cons (.var 2) (.cons (.lit (.int 1)) (.cons (.lit (.int 1)) (.cons (.var 3) .nil))))))) .nil)))))))))))
def F__law_three_k15 : Fn := mkFn [F_cheapest, F_depth_for_any, F_depth_for_all, F_depth_for, F_fair_at, F_meeting_depth, F_waiting, F_common_things, F_overlap] 4 4 b__law_three_k15
def b__law_asked_k15 : St := (.cons (.asg 5 (.lit .non)) (.cons (.tryc (.cons (.ife (.cmp .eq (.var 0) (.lit (.int 1))) (.cons (.exp (.call 1 (.cons (.var 1) (.cons (.var 2) (.cons (.var 3) .nil))))) .nil) (.cons (.ife (.cmp .eq (.var 0) (.lit (.int 2))) (.cons (.exp (.call 2 (.cons (.var 1) (.cons (.var 2) (.cons (.var 3) .nil))))) .nil) (.cons (.exp (.call 3 (.cons (.var 1) (.cons (.var 2) (.cons (.var 3) (.cons (.var 4) .nil)))))) .nil)) .nil)) .nil) 6 5) (.cons (.ret (.ife (.isn (.var 5)) (.lit (.str "done")) (.call 0 (.cons (.var 5) .nil)))) .nil)))
def F__law_asked_k15 : Fn := mkFn [F__law_error, F__law_single_k15, F__law_two_k15, F__law_three_k15] 5 7 b__law_asked_k15
def b__law_numbers_k15 : St := (.cons (.asg 2 (.call 1 (.cons (.var 0) (.cons (.var 1) .nil)))) (.cons (.asg 3 (.list (.cons (.tuple (.cons (.lit (.int 0)) (.cons (.lit (.int 0)) (.cons (.lit (.int 4)) .nil)))) (.cons (.tuple (.cons (.lit (.int 1)) (.cons (.lit (.int 0)) (.cons (.lit (.int 4)) .nil)))) (.cons (.tuple (.cons (.lit (.int 2)) (.cons (.lit (.int 0)) (.cons (.lit (.int 4)) .nil)))) (.cons (.tuple (.cons (.lit (.int 3)) (.cons (.lit (.int 0)) (.cons (.lit (.int 3)) .nil)))) (.cons (.tuple (.cons (.lit (.int 4)) (.cons (.lit (.int 0)) (.cons (.bin .sub (.var 2) (.lit (.int 1))) .nil)))) (.cons (.tuple (.cons (.lit (.int 5)) (.cons (.lit (.int 0)) (.cons (.lit (.int 4)) .nil)))) (.cons (.tuple (.cons (.lit (.int 8)) (.cons (.lit (.int 0)) (.cons (.lit (.int 4)) .nil)))) (.cons (.tuple (.cons (.lit (.int 9)) (.cons (.lit (.int 0)) (.cons (.lit (.int 100)) .nil)))) (.cons (.tuple (.cons (.lit (.int 10)) (.cons (.lit (.int 0)) (.cons (.lit (.int 100)) .nil)))) .nil))))))))))) (.cons (.forr (.tup [4, 5, 6]) (.iof (.var 3)) (.cons (.ife (.cmp .ne (.comp (.call 0 (.cons (.lit (.int 3)) (.cons (.var 4) (.cons (.var 0) (.cons (.var 1) (.cons (.var 7) .nil)))))) (.one 7) (.itup (.tuple (.cons (.lit .non) (.cons (.bin .sub (.var 5) (.lit (.int 1))) (.cons (.bin .add (.var 6) (.lit (.int 1))) (.cons (.lit (.bl true)) (.cons (.b1 .str (.var 5)) .nil))))))) .absent [7]) (.bin .mul (.list (.cons (.lit (.str "number")) .nil)) (.lit (.int 5)))) (.cons (.ret (.lit (.bl false))) .nil) .nil) (.cons (.ife (.cmp .ne (.comp (.call 0 (.cons (.lit (.int 3)) (.cons (.var 4) (.cons (.var 0) (.cons (.var 1) (.cons (.var 8) .nil)))))) (.one 8) (.itup (.tuple (.cons (.var 5) (.cons (.var 6) .nil)))) .absent [8]) (.bin .mul (.list (.cons (.lit (.str "done")) .nil)) (.lit (.int 2)))) (.cons (.ret (.lit (.bl false))) .nil) .nil) .nil))) (.cons (.forr (.tup [4, 5, 6]) (.iof (.list (.cons (.tuple (.cons (.lit (.int 3)) (.cons (.lit (.int 0)) (.cons (.lit (.int 2)) .nil)))) (.cons (.tuple (.cons (.lit (.int 4)) (.cons (.lit (.int 0)) (.cons (.lit (.int 3)) .nil)))) (.cons (.tuple (.cons (.lit (.int 5)) (.cons (.lit (.int 0)) (.cons (.lit (.int 3)) .nil)))) (.cons (.tuple (.cons (.lit (.int 6)) (.cons (.lit (.int 0)) (.cons (.lit (.int 3)) .nil)))) .nil)))))) (.cons (.ife (.cmp .ne (.comp (.call 0 (.cons (.lit (.int 1)) (.cons (.var 4) (.cons (.var 0) (.cons (.var 7) (.cons (.lit (.int 0)) .nil)))))) (.one 7) (.itup (.tuple (.cons (.lit .non) (.cons (.bin .sub (.var 5) (.lit (.int 1))) (.cons (.bin .add (.var 6) (.lit (.int 1))) (.cons (.lit (.bl true)) (.cons (.b1 .str (.var 5)) .nil))))))) .absent [7]) (.bin .mul (.list (.cons (.lit (.str "number")) .nil)) (.lit (.int 5)))) (.cons (.ret (.lit (.bl false))) .nil) .nil) (.cons (.ife (.cmp .ne (.comp (.call 0 (.cons (.lit (.int 1)) (.cons (.var 4) (.cons (.var 0) (.cons (.var 8) (.cons (.lit (.int 0)) .nil)))))) (.one 8) (.itup (.tuple (.cons (.var 5) (.cons (.var 6) .nil)))) .absent [8]) (.bin .mul (.list (.cons (.lit (.str "done")) .nil)) (.lit (.int 2)))) (.cons (.ret (.lit (.bl false))) .nil) .nil) .nil))) (.cons (.forr (.one 7) (.iof (.list (.cons (.lit .non) (.cons (.lit (.int 5)) (.cons (.tuple (.cons (.lit (.int 0)) .nil)) (.cons (.list (.cons (.lit (.int 4)) .nil)) (.cons (.list (.cons (.bin .sub (.lit (.int 0)) (.lit (.int 1))) .nil)) (.cons (.list (.cons (.lit (.bl true)) .nil)) (.cons (.list (.cons (.lit .non) .nil)) .nil))))))))) (.cons (.ife (.cmp .ne (.comp (.call 0 (.cons (.lit (.int 3)) (.cons (.var 9) (.cons (.var 0) (.cons (.var 1) (.cons (.var 7) .nil)))))) (.one 9) (.itup (.tuple (.cons (.lit (.int 6)) (.cons (.lit (.int 7)) .nil)))) .absent [9]) (.bin .mul (.list (.cons (.lit (.str "number")) .nil)) (.lit (.int 2)))) (.cons (.ret (.lit (.bl false))) .nil) .nil) .nil)) (.cons (.ret (.ands (.cons (.cmp .eq (.comp (.call 0 (.cons (.lit (.int 3)) (.cons (.var 9) (.cons (.var 0) (.cons (.var 1) (.cons (.list .nil) .nil)))))) (.one 9) (.itup (.tuple (.cons (.lit (.int 6)) (.cons (.lit (.int 7)) .nil)))) .absent [9]) (.list (.cons (.lit (.str "done")) (.cons (.lit (.str "none")) .nil)))) (.cons (.cmp .eq (.call 0 (.cons (.lit (.int 3)) (.cons (.lit (.int 6)) (.cons (.var 0) (.cons (.var 1) (.cons (.list (.cons (.lit (.int 0)) (.cons (.lit (.int 0)) .nil))) .nil)))))) (.lit (.str "done"))) .nil)))) .nil))))))
def F__law_numbers_k15 : Fn := mkFn [F__law_asked_k15, F_count_fair] 2 10 b__law_numbers_k15
def b_law_k15 : St := (.cons (.asg 1 (.call 4 (.cons (.var 0) .nil))) (.cons (.par [2, 3] (.cons (.call 2 (.cons (.var 1) (.cons (.lit (.int 4)) .nil))) (.cons (.call 2 (.cons (.var 1) (.cons (.lit (.int 4)) .nil))) .nil))) (.cons (.forr (.one 4) (.iof (.list (.cons (.lit .non) (.cons (.lit (.int 5)) (.cons (.tuple .nil) (.cons (.list .nil) (.cons (.tuple (.cons (.lit (.int 0)) (.cons (.lit (.int 1)) (.cons (.lit (.int 2)) (.cons (.lit (.int 3)) .nil))))) (.cons (.list (.cons (.lit (.int 1)) .nil)) (.cons (.list (.cons (.lit (.int 0)) (.cons (.lit (.int 0)) .nil))) (.cons (.list (.cons (.lit (.int 0)) (.cons (.lit (.int 2)) .nil))) (.cons (.list (.cons (.lit (.bl true)) .nil)) (.cons (.list (.cons (.lit (.str "0")) .nil)) (.cons (.list (.cons (.bin .sub (.lit (.int 0)) (.lit (.int 1))) (.cons (.lit (.int 0)) .nil))) (.cons (.list (.cons (.lit .non) .nil)) (.cons (.list (.cons (.lit (.int 0)) (.cons (.lit (.int 1)) (.cons (.lit (.int 2)) (.cons (.lit (.int 3)) (.cons (.lit (.int 4)) (.cons (.lit (.int 5)) (.cons (.lit (.int 6)) (.cons (.lit (.int 7)) .nil))))))))) .nil))))))))))))))) (.cons (.ife (.ors (.cons (.cmp .nisb (.call 1 (.cons (.var 4) .nil)) (.lit (.bl false))) (.cons (.cmp .ne (.comp (.call 3 (.cons (.lit (.int 1)) (.cons (.var 5) (.cons (.var 4) (.cons (.lit .non) (.cons (.lit (.int 0)) .nil)))))) (.one 5) (.irng1 (.lit (.int 8))) .absent [5]) (.bin .mul (.list (.cons (.lit (.str "list")) .nil)) (.lit (.int 8)))) .nil))) (.cons (.ret (.lit (.bl false))) .nil) .nil) (.cons (.ife (.ors (.cons (.cmp .ne (.comp (.call 3 (.cons (.lit (.int 2)) (.cons (.var 5) (.cons (.var 4) (.cons (.var 2) (.cons (.lit (.int 0)) .nil)))))) (.one 5) (.irng1 (.lit (.int 15))) .absent [5]) (.bin .mul (.list (.cons (.lit (.str "list")) .nil)) (.lit (.int 15)))) (.cons (.cmp .ne (.comp (.call 3 (.cons (.lit (.int 2)) (.cons (.var 5) (.cons (.var 2) (.cons (.var 4) (.cons (.lit (.int 0)) .nil)))))) (.one 5) (.irng1 (.lit (.int 15))) .absent [5]) (.bin .mul (.list (.cons (.lit (.str "list")) .nil)) (.lit (.int 15)))) .nil))) (.cons (.ret (.lit (.bl false))) .nil) .nil) (.cons (.ife (.ors (.cons (.cmp .ne (.comp (.call 3 (.cons (.lit (.int 3)) (.cons (.var 5) (.cons (.var 4) (.cons (.var 2) (.cons (.lit .non) .nil)))))) (.one 5) (.irng1 (.lit (.int 11))) .absent [5]) (.bin .mul (.list (.cons (.lit (.str "list")) .nil)) (.lit (.int 11)))) (.cons (.cmp .ne (.comp (.call 3 (.cons (.lit (.int 3)) (.cons (.var 5) (.cons (.var 2) (.cons (.var 4) (.cons (.lit .non) .nil)))))) (.one 5) (.irng1 (.lit (.int 11))) .absent [5]) (.bin .mul (.list (.cons (.lit (.str "list")) .nil)) (.lit (.int 11)))) .nil))) (.cons (.ret (.lit (.bl false))) .nil) .nil) .nil)))) (.cons (.ife (.ors (.cons (.cmp .ne (.comp (.call 3 (.cons (.lit (.int 2)) (.cons (.var 5) (.cons (.var 2) (.cons (.list (.cons (.lit (.int 0)) (.cons (.lit (.int 1)) (.cons (.lit (.int 2)) .nil)))) (.cons (.lit (.int 0)) .nil)))))) (.one 5) (.irng1 (.lit (.int 15))) .absent [5]) (.bin .mul (.list (.cons (.lit (.str "list")) .nil)) (.lit (.int 15)))) (.cons (.cmp .ne (.comp (.call 3 (.cons (.lit (.int 2)) (.cons (.var 5) (.cons (.var 2) (.cons (.var 3) (.cons (.lit (.int 0)) .nil)))))) (.one 5) (.irng1 (.lit (.int 15))) .absent [5]) (.bin .mul (.list (.cons (.lit (.str "done")) .nil)) (.lit (.int 15)))) .nil))) (.cons (.ret (.lit (.bl false))) .nil) .nil) (.cons (.ife (.ors (.cons (.cmp .ne (.comp (.call 3 (.cons (.lit (.int 2)) (.cons (.var 5) (.cons (.list (.cons (.lit (.int 0)) (.cons (.lit (.int 1)) (.cons (.lit (.int 2)) .nil)))) (.cons (.var 2) (.cons (.lit (.int 0)) .nil)))))) (.one 5) (.irng1 (.lit (.int 15))) .absent [5]) (.bin .mul (.list (.cons (.lit (.str "list")) .nil)) (.lit (.int 15)))) (.cons (.cmp .ne (.comp (.call 3 (.cons (.lit (.int 1)) (.cons (.var 5) (.cons (.list (.cons (.lit (.int 0)) .nil)) (.cons (.lit (.int 0)) (.cons (.lit (.int 0)) .nil)))))) (.one 5) (.itup (.tuple (.cons (.lit (.int 3)) (.cons (.lit (.int 6)) .nil)))) .absent [5]) (.bin .mul (.list (.cons (.lit (.str "number")) .nil)) (.lit (.int 2)))) .nil))) (.cons (.ret (.lit (.bl false))) .nil) .nil) (.cons (.forr (.one 4) (.iof (.list (.cons (.lit .non) (.cons (.lit (.int 5)) (.cons (.tuple (.cons (.lit (.int 1)) (.cons (.lit (.int 2)) (.cons (.lit (.int 3)) (.cons (.lit (.int 4)) .nil))))) (.cons (.list .nil) (.cons (.list (.cons (.lit (.int 1)) (.cons (.lit (.int 2)) (.cons (.lit (.int 3)) .nil)))) (.cons (.list (.cons (.lit (.int 2)) (.cons (.lit (.int 2)) (.cons (.lit (.int 3)) (.cons (.lit (.int 4)) .nil))))) (.cons (.list (.cons (.lit (.int 0)) (.cons (.lit (.int 0)) (.cons (.lit (.int 0)) (.cons (.lit (.int 4)) .nil))))) (.cons (.list (.cons (.lit (.int 1)) (.cons (.lit (.int 2)) (.cons (.lit (.int 3)) (.cons (.lit (.int 3)) .nil))))) (.cons (.list (.cons (.lit (.int 1)) (.cons (.lit (.int 1)) (.cons (.lit (.int 4)) (.cons (.lit (.int 4)) .nil))))) (.cons (.list (.cons (.lit (.int 1)) (.cons (.lit (.int 0)) (.cons (.lit (.int 2)) (.cons (.lit (.int 4)) .nil))))) (.cons (.list (.cons (.lit (.bl true)) (.cons (.lit (.int 2)) (.cons (.lit (.int 3)) (.cons (.lit (.int 4)) .nil))))) .nil))))))))))))) (.cons (.ife (.cmp .ne (.call 3 (.cons (.lit (.int 1)) (.cons (.lit (.int 7)) (.cons (.var 2) (.cons (.var 4) (.cons (.lit (.int 0)) .nil)))))) (.lit (.str "row"))) (.cons (.ret (.lit (.bl false))) .nil) .nil) .nil)) (.cons (.ret (.ands (.cons (.cmp .eq (.call 3 (.cons (.lit (.int 1)) (.cons (.lit (.int 7)) (.cons (.var 2) (.cons (.list (.cons (.lit (.int 0)) (.cons (.lit (.int 0)) (.cons (.lit (.int 2)) (.cons (.lit (.int 4)) .nil))))) (.cons (.lit (.int 0)) .nil)))))) (.lit (.str "done"))) (.cons (.cmp .isb (.call 1 (.cons (.call 2 (.cons (.var 1) (.cons (.lit (.int 7)) .nil))) .nil)) (.lit (.bl true))) (.cons (.call 0 (.cons (.var 2) (.cons (.var 3) .nil))) .nil))))) .nil)))))))
def F_law_k15 : Fn := mkFn [F__law_numbers_k15, F_is_full, F__law_list, F__law_asked_k15, F__law_start] 1 6 b_law_k15
def b_count_fills : St := (.cons (.exp (.call 1 (.cons (.var 0) (.cons (.var 1) .nil)))) (.cons (.asg 2 (.lit (.int 1))) (.cons (.forr (.one 3) (.irng1 (.b1 .len (.call 0 (.cons (.var 0) (.cons (.var 1) .nil))))) (.cons (.aug 2 .mul (.bin .add (.var 3) (.lit (.int 1)))) .nil)) (.cons (.ret (.var 2)) .nil))))
def F_count_fills : Fn := mkFn [F_rest_of, F_check_shorts] 2 4 b_count_fills
def b_farthest_fill : St := (.cons (.exp (.call 1 (.cons (.var 0) (.cons (.var 1) .nil)))) (.cons (.ret (.tuple (.cons (.bin .add (.var 0) (.rev (.call 0 (.cons (.var 0) (.cons (.var 1) .nil))))) (.cons (.bin .add (.var 1) (.rev (.call 0 (.cons (.var 1) (.cons (.var 0) .nil))))) .nil)))) .nil))
def F_farthest_fill : Fn := mkFn [F_rest_of, F_check_shorts] 2 2 b_farthest_fill
def b_shared : St := (.cons (.exp (.call 0 (.cons (.var 0) (.cons (.var 1) .nil)))) (.cons (.ret (.comp (.var 2) (.one 2) (.iof (.var 0)) (.opt (.cmp .isin (.var 2) (.var 1))) [2])) .nil))
def F_shared : Fn := mkFn [F_check_shorts] 2 3 b_shared
def b__law_pair_k16 : St := (.cons (.ife (.cmp .eq (.var 0) (.lit (.int 0))) (.cons (.ret (.call 10 (.cons (.var 1) (.cons (.var 2) .nil)))) .nil) .nil) (.cons (.ife (.cmp .eq (.var 0) (.lit (.int 1))) (.cons (.ret (.call 9 (.cons (.var 1) (.cons (.var 2) .nil)))) .nil) .nil) (.cons (.ife (.cmp .eq (.var 0) (.lit (.int 2))) (.cons (.ret (.call 8 (.cons (.var 1) (.cons (.var 2) .nil)))) .nil) .nil) (.cons (.ife (.cmp .eq (.var 0) (.lit (.int 3))) (.cons (.ret (.call 7 (.cons (.var 1) (.cons (.var 2) .nil)))) .nil) .nil) (.cons (.ife (.cmp .eq (.var 0) (.lit (.int 4))) (.cons (.ret (.call 6 (.cons (.var 1) (.cons (.var 2) .nil)))) .nil) .nil) (.cons (.ife (.cmp .eq (.var 0) (.lit (.int 5))) (.cons (.ret (.call 5 (.cons (.var 1) (.cons (.var 2) .nil)))) .nil) .nil) (.cons (.ife (.cmp .eq (.var 0) (.lit (.int 6))) (.cons (.ret (.call 4 (.cons (.var 1) (.cons (.var 2) .nil)))) .nil) .nil) (.cons (.ife (.cmp .eq (.var 0) (.lit (.int 7))) (.cons (.ret (.call 3 (.cons (.var 1) (.cons (.var 2) .nil)))) .nil) .nil) (.cons (.ife (.cmp .eq (.var 0) (.lit (.int 8))) (.cons (.ret (.call 2 (.cons (.var 1) (.cons (.var 2) .nil)))) .nil) .nil) (.cons (.ret (.ife (.cmp .eq (.var 0) (.lit (.int 9))) (.call 0 (.cons (.var 1) (.cons (.var 2) (.cons (.lit (.str "a")) .nil)))) (.call 1 (.cons (.var 1) (.cons (.var 2) .nil))))) .nil))))))))))
def F__law_pair_k16 : Fn := mkFn [F_place_range, F_can_extend, F_count_fills, F_farthest_fill, F_nearest_fill, F_agree, F_distance_range, F_pairs_of, F_alone, F_shared, F_listed] 3 3 b__law_pair_k16
def b__law_lists_k16 : St := (.cons (.ife (.cmp .eq (.var 0) (.lit (.int 0))) (.cons (.ret (.call 7 (.cons (.var 1) .nil))) .nil) .nil) (.cons (.ife (.cmp .eq (.var 0) (.lit (.int 1))) (.cons (.ret (.call 6 (.cons (.var 1) .nil))) .nil) .nil) (.cons (.ife (.cmp .eq (.var 0) (.lit (.int 2))) (.cons (.ret (.call 5 (.cons (.var 1) .nil))) .nil) .nil) (.cons (.ife (.cmp .eq (.var 0) (.lit (.int 3))) (.cons (.ret (.call 4 (.cons (.var 1) .nil))) .nil) .nil) (.cons (.ife (.cmp .eq (.var 0) (.lit (.int 4))) (.cons (.ret (.call 3 (.cons (.var 1) .nil))) .nil) .nil) (.cons (.ife (.cmp .eq (.var 0) (.lit (.int 5))) (.cons (.ret (.call 2 (.cons (.var 1) .nil))) .nil) .nil) (.cons (.ret (.ife (.cmp .eq (.var 0) (.lit (.int 6))) (.call 0 (.cons (.var 1) (.cons (.lit (.str "a")) (.cons (.lit (.str "b")) .nil)))) (.call 1 (.cons (.var 1) (.cons (.lit (.str "a")) (.cons (.lit (.str "b")) .nil)))))) .nil)))))))
def F__law_lists_k16 : Fn := mkFn [F_beats, F_sure_order, F_unbeaten, F_by_votes, F_place_sums, F_by_sum, F_by_best_place, F_turns] 2 2 b__law_lists_k16
def b_row_at : St := (.cons (.exp (.call 2 (.cons (.var 0) .nil))) (.cons (.asg 2 (.call 1 (.cons (.var 0) .nil))) (.cons (.ife (.not (.call 0 (.cons (.var 1) (.cons (.lit (.int 0)) (.cons (.bin .sub (.b1 .len (.var 2)) (.lit (.int 1))) .nil))))) (.cons (.raise 1) .nil) .nil) (.cons (.ret (.sub (.var 2) (.var 1))) .nil))))
def F_row_at : Fn := mkFn [F_is_int, F_rows_of, F_check_size] 2 3 b_row_at
def b__law_call_k16 : St := (.cons (.ife (.cmp .eq (.var 0) (.lit (.int 0))) (.cons (.ret (.call 14 (.cons (.var 1) .nil))) .nil) .nil) (.cons (.ife (.cmp .eq (.var 0) (.lit (.int 1))) (.cons (.ret (.call 13 (.cons (.var 1) .nil))) .nil) .nil) (.cons (.ife (.cmp .eq (.var 0) (.lit (.int 2))) (.cons (.ret (.call 12 (.cons (.var 1) .nil))) .nil) .nil) (.cons (.ife (.cmp .eq (.var 0) (.lit (.int 3))) (.cons (.ret (.call 11 (.cons (.var 1) .nil))) .nil) .nil) (.cons (.ife (.cmp .eq (.var 0) (.lit (.int 4))) (.cons (.ret (.call 10 (.cons (.var 1) (.cons (.var 2) .nil)))) .nil) .nil) (.cons (.ife (.cmp .eq (.var 0) (.lit (.int 5))) (.cons (.ret (.call 9 (.cons (.var 1) (.cons (.var 2) .nil)))) .nil) .nil) (.cons (.ife (.cmp .eq (.var 0) (.lit (.int 6))) (.cons (.ret (.call 8 (.cons (.var 1) .nil))) .nil) .nil) (.cons (.ife (.cmp .eq (.var 0) (.lit (.int 7))) (.cons (.ret (.call 7 (.cons (.list (.cons (.lit (.str "a")) (.cons (.lit (.str "b")) .nil))) (.cons (.var 1) .nil)))) .nil) .nil) (.cons (.ife (.cmp .eq (.var 0) (.lit (.int 8))) (.cons (.ret (.call 6 (.cons (.var 1) (.cons (.var 2) .nil)))) .nil) .nil) (.cons (.ife (.cmp .eq (.var 0) (.lit (.int 9))) (.cons (.ret (.call 5 (.cons (.list (.cons (.lit (.str "b")) .nil)) (.cons (.list (.cons (.lit (.str "a")) .nil)) (.cons (.var 1) .nil))))) .nil) .nil) (.cons (.ife (.cmp .eq (.var 0) (.lit (.int 10))) (.cons (.ret (.call 4 (.cons (.list (.cons (.list (.cons (.lit (.str "a")) (.cons (.lit (.str "b")) .nil))) .nil)) (.cons (.var 1) (.cons (.var 2) .nil))))) .nil) .nil) (.cons (.ife (.cmp .eq (.var 0) (.lit (.int 11))) (.cons (.ret (.call 3 (.cons (.list (.cons (.list (.cons (.lit (.str "a")) (.cons (.lit (.str "b")) .nil))) .nil)) (.cons (.var 1) (.cons (.var 2) .nil))))) .nil) .nil) (.cons (.ife (.cmp .eq (.var 0) (.lit (.int 12))) (.cons (.ret (.call 2 (.cons (.var 1) .nil))) .nil) .nil) (.cons (.ret (.ife (.cmp .eq (.var 0) (.lit (.int 13))) (.mcall 0 (.var 1) (.cons (.var 2) .nil)) (.mcall 1 (.var 1) .nil))) .nil))))))))))))))
def F__law_call_k16 : Fn := mkFn [F_Reader_read, F_Reader_undo, F_format_short, F_sure_order, F_beats, F_place_range, F_count_otherwise, F_prefix, F_count_rows, F_rows_with_total, F_row_at, F_all_rows, F_first_fault, F_rank_of, F_count_others] 3 3 b__law_call_k16
def b__law_asked_k16 : St := (.cons (.asg 4 (.lit .non)) (.cons (.tryc (.cons (.ife (.cmp .eq (.var 0) (.lit (.int 1))) (.cons (.exp (.call 1 (.cons (.var 1) (.cons (.var 2) (.cons (.var 3) .nil))))) .nil) (.cons (.ife (.cmp .eq (.var 0) (.lit (.int 2))) (.cons (.exp (.call 2 (.cons (.var 1) (.cons (.var 2) .nil)))) .nil) (.cons (.exp (.call 3 (.cons (.var 1) (.cons (.var 2) (.cons (.var 3) .nil))))) .nil)) .nil)) .nil) 5 4) (.cons (.ret (.ife (.isn (.var 4)) (.lit (.str "done")) (.call 0 (.cons (.var 4) .nil)))) .nil)))
def F__law_asked_k16 : Fn := mkFn [F__law_error, F__law_pair_k16, F__law_lists_k16, F__law_call_k16] 4 6 b__law_asked_k16
def b__law_letters_k16 : St := (.cons (.ife (.cmp .ne (.comp (.call 0 (.cons (.lit (.int 3)) (.cons (.lit (.int 7)) (.cons (.var 0) (.cons (.lit (.int 0)) .nil))))) (.one 0) (.itup (.tuple (.cons (.lit .non) (.cons (.lit (.int 0)) (.cons (.lit (.int 3)) (.cons (.lit (.bl true)) (.cons (.lit (.str "1")) (.cons (.lit (.int 1)) (.cons (.lit (.int 2)) .nil))))))))) .absent [0]) (.bin .add (.bin .mul (.list (.cons (.lit (.str "short")) .nil)) (.lit (.int 5))) (.bin .mul (.list (.cons (.lit (.str "done")) .nil)) (.lit (.int 2))))) (.cons (.ret (.lit (.bl false))) .nil) .nil) (.cons (.forr (.one 1) (.iof (.list (.cons (.lit .non) (.cons (.lit (.int 5)) (.cons (.tuple .nil) (.cons (.list .nil) (.cons (.tuple (.cons (.lit (.str "a")) .nil)) (.cons (.list (.cons (.lit (.str "k")) .nil)) (.cons (.list (.cons (.lit (.str "ab")) .nil)) (.cons (.list (.cons (.lit (.str "")) .nil)) (.cons (.list (.cons (.lit (.int 1)) .nil)) (.cons (.list (.cons (.lit (.str "a")) (.cons (.lit (.str "a")) .nil))) (.cons (.bin .add (.b1 .list (.lit (.str "abcdefghij"))) (.list (.cons (.lit (.str "a")) .nil))) (.cons (.lit (.str "ab")) .nil)))))))))))))) (.cons (.ife (.ors (.cons (.cmp .ne (.call 0 (.cons (.lit (.int 3)) (.cons (.lit (.int 8)) (.cons (.var 1) (.cons (.list (.cons (.lit (.str "a")) .nil)) .nil))))) (.lit (.str "short"))) (.cons (.cmp .ne (.call 0 (.cons (.lit (.int 3)) (.cons (.lit (.int 8)) (.cons (.list (.cons (.lit (.str "a")) .nil)) (.cons (.var 1) .nil))))) (.lit (.str "short"))) (.cons (.cmp .ne (.call 0 (.cons (.lit (.int 1)) (.cons (.lit (.int 10)) (.cons (.list (.cons (.lit (.str "a")) .nil)) (.cons (.var 1) .nil))))) (.lit (.str "short"))) .nil)))) (.cons (.ret (.lit (.bl false))) .nil) .nil) .nil)) (.cons (.ife (.ors (.cons (.cmp .ne (.call 0 (.cons (.lit (.int 3)) (.cons (.lit (.int 8)) (.cons (.list (.cons (.lit (.str "a")) .nil)) (.cons (.list (.cons (.lit (.str "b")) .nil)) .nil))))) (.lit (.str "short"))) (.cons (.cmp .ne (.call 0 (.cons (.lit (.int 3)) (.cons (.lit (.int 8)) (.cons (.b1 .list (.lit (.str "abcdefghij"))) (.cons (.b1 .list (.lit (.str "jihgfedcba"))) .nil))))) (.lit (.str "done"))) .nil))) (.cons (.ret (.lit (.bl false))) .nil) .nil) (.cons (.ife (.cmp .ne (.comp (.call 0 (.cons (.lit (.int 3)) (.cons (.lit (.int 9)) (.cons (.var 2) (.cons (.lit (.int 0)) .nil))))) (.one 2) (.itup (.tuple (.cons (.lit .non) (.cons (.lit (.int 5)) (.cons (.lit (.str "c")) (.cons (.lit (.str "ab")) (.cons (.lit (.str "")) (.cons (.lit (.str "a")) (.cons (.lit (.str "b")) .nil))))))))) .absent [2]) (.bin .add (.bin .mul (.list (.cons (.lit (.str "none")) .nil)) (.lit (.int 5))) (.bin .mul (.list (.cons (.lit (.str "done")) .nil)) (.lit (.int 2))))) (.cons (.ret (.lit (.bl false))) .nil) .nil) (.cons (.forr (.tup [3, 4]) (.iof (.list (.cons (.tuple (.cons (.lit (.str "a")) (.cons (.lit (.str "a")) .nil))) (.cons (.tuple (.cons (.lit .non) (.cons (.lit (.str "a")) .nil))) (.cons (.tuple (.cons (.lit (.str "a")) (.cons (.lit (.int 5)) .nil))) (.cons (.tuple (.cons (.lit (.str "")) (.cons (.lit (.str "a")) .nil))) (.cons (.tuple (.cons (.lit (.str "ab")) (.cons (.lit (.str "c")) .nil))) (.cons (.tuple (.cons (.lit (.str "a")) (.cons (.lit (.str "k")) .nil))) (.cons (.tuple (.cons (.list (.cons (.lit (.str "a")) .nil)) (.cons (.lit (.str "b")) .nil))) .nil))))))))) (.cons (.ife (.cmp .ne (.comp (.call 0 (.cons (.lit (.int 3)) (.cons (.var 5) (.cons (.var 3) (.cons (.var 4) .nil))))) (.one 5) (.itup (.tuple (.cons (.lit (.int 10)) (.cons (.lit (.int 11)) .nil)))) .absent [5]) (.bin .mul (.list (.cons (.lit (.str "short")) .nil)) (.lit (.int 2)))) (.cons (.ret (.lit (.bl false))) .nil) .nil) .nil)) (.cons (.ret (.ands (.cons (.cmp .eq (.comp (.call 0 (.cons (.lit (.int 3)) (.cons (.var 5) (.cons (.lit (.str "a")) (.cons (.lit (.str "c")) .nil))))) (.one 5) (.itup (.tuple (.cons (.lit (.int 10)) (.cons (.lit (.int 11)) .nil)))) .absent [5]) (.list (.cons (.lit (.str "short")) (.cons (.lit (.str "done")) .nil)))) (.cons (.cmp .eq (.call 0 (.cons (.lit (.int 3)) (.cons (.lit (.int 10)) (.cons (.lit (.str "b")) (.cons (.lit (.str "a")) .nil))))) (.lit (.str "done"))) .nil)))) .nil))))))
def F__law_letters_k16 : Fn := mkFn [F__law_asked_k16] 0 6 b__law_letters_k16
def b__law_rows_k16 : St := (.cons (.forr (.one 0) (.iof (.list (.cons (.lit .non) (.cons (.lit (.int 5)) (.cons (.tuple (.cons (.lit (.int 1)) .nil)) (.cons (.list .nil) (.cons (.list (.cons (.lit (.int 0)) .nil)) (.cons (.list (.cons (.lit (.int 2)) .nil)) (.cons (.list (.cons (.lit (.int 1)) (.cons (.lit (.int 1)) .nil))) (.cons (.list (.cons (.lit (.int 0)) (.cons (.lit (.int 1)) .nil))) (.cons (.list (.cons (.lit (.int 1)) (.cons (.lit (.int 3)) .nil))) (.cons (.list (.cons (.lit (.bl true)) .nil)) (.cons (.list (.cons (.lit (.str "1")) .nil)) (.cons (.list (.cons (.lit (.int 1)) (.cons (.lit (.int 2)) (.cons (.lit (.int 3)) (.cons (.lit (.int 4)) (.cons (.lit (.int 5)) (.cons (.lit (.int 6)) (.cons (.lit (.int 7)) (.cons (.lit (.int 8)) .nil))))))))) (.cons (.list (.cons (.lit (.int 0)) (.cons (.lit (.int 0)) (.cons (.lit (.int 2)) .nil)))) (.cons (.list (.cons (.lit (.int 0)) (.cons (.lit (.int 3)) (.cons (.lit (.int 3)) .nil)))) (.cons (.list (.cons (.lit (.int 0)) (.cons (.lit (.int 0)) (.cons (.lit (.int 3)) .nil)))) (.cons (.list (.cons (.lit (.int 0)) (.cons (.lit (.int 0)) (.cons (.lit (.int 3)) (.cons (.lit (.int 4)) .nil))))) .nil)))))))))))))))))) (.cons (.ife (.ors (.cons (.cmp .nisb (.call 1 (.cons (.var 0) .nil)) (.lit (.bl false))) (.cons (.cmp .ne (.comp (.call 2 (.cons (.lit (.int 3)) (.cons (.var 1) (.cons (.var 0) (.cons (.lit (.int 0)) .nil))))) (.one 1) (.itup (.tuple (.cons (.lit (.int 0)) (.cons (.lit (.int 1)) .nil)))) .absent [1]) (.bin .mul (.list (.cons (.lit (.str "row")) .nil)) (.lit (.int 2)))) .nil))) (.cons (.ret (.lit (.bl false))) .nil) .nil) .nil)) (.cons (.ife (.cmp .ne (.comp (.call 2 (.cons (.lit (.int 3)) (.cons (.lit (.int 2)) (.cons (.var 0) (.cons (.lit (.int 0)) .nil))))) (.one 0) (.itup (.tuple (.cons (.lit .non) (.cons (.lit (.int 5)) (.cons (.tuple (.cons (.lit (.int 1)) .nil)) (.cons (.list .nil) (.cons (.list (.cons (.lit (.int 8)) .nil)) (.cons (.list (.cons (.bin .sub (.lit (.int 0)) (.lit (.int 1))) .nil)) (.cons (.list (.cons (.lit (.bl true)) .nil)) (.cons (.list (.cons (.lit (.str "1")) .nil)) (.cons (.bin .mul (.list (.cons (.lit (.int 0)) .nil)) (.lit (.int 8))) (.cons (.list (.cons (.lit (.int 7)) .nil)) (.cons (.bin .mul (.list (.cons (.lit (.int 0)) .nil)) (.lit (.int 7))) .nil))))))))))))) .absent [0]) (.bin .add (.bin .mul (.list (.cons (.lit (.str "row")) .nil)) (.lit (.int 9))) (.bin .mul (.list (.cons (.lit (.str "done")) .nil)) (.lit (.int 2))))) (.cons (.ret (.lit (.bl false))) .nil) .nil) (.cons (.forr (.one 0) (.iof (.list (.cons (.lit .non) (.cons (.lit (.int 0)) (.cons (.lit (.int 8)) (.cons (.bin .sub (.lit (.int 0)) (.lit (.int 1))) (.cons (.lit (.bl true)) (.cons (.lit (.str "3")) .nil)))))))) (.cons (.ife (.cmp .ne (.comp (.call 2 (.cons (.lit (.int 3)) (.cons (.var 1) (.cons (.var 0) (.cons (.lit .non) .nil))))) (.one 1) (.itup (.tuple (.cons (.lit (.int 3)) (.cons (.lit (.int 4)) (.cons (.lit (.int 5)) .nil))))) .absent [1]) (.bin .mul (.list (.cons (.lit (.str "number")) .nil)) (.lit (.int 3)))) (.cons (.ret (.lit (.bl false))) .nil) .nil) .nil)) (.cons (.ife (.cmp .ne (.comp (.call 2 (.cons (.lit (.int 3)) (.cons (.lit (.int 4)) (.cons (.lit (.int 2)) (.cons (.var 2) .nil))))) (.one 2) (.itup (.tuple (.cons (.lit .non) (.cons (.lit (.int 2)) (.cons (.bin .sub (.lit (.int 0)) (.lit (.int 1))) (.cons (.lit (.bl true)) (.cons (.lit (.str "0")) (.cons (.lit (.int 0)) (.cons (.lit (.int 1)) .nil))))))))) .absent [2]) (.bin .add (.bin .mul (.list (.cons (.lit (.str "number")) .nil)) (.lit (.int 5))) (.bin .mul (.list (.cons (.lit (.str "done")) .nil)) (.lit (.int 2))))) (.cons (.ret (.lit (.bl false))) .nil) .nil) (.cons (.ife (.cmp .ne (.comp (.call 2 (.cons (.lit (.int 3)) (.cons (.lit (.int 5)) (.cons (.lit (.int 2)) (.cons (.var 3) .nil))))) (.one 3) (.itup (.tuple (.cons (.lit .non) (.cons (.bin .sub (.lit (.int 0)) (.lit (.int 1))) (.cons (.lit (.int 101)) (.cons (.lit (.bl true)) (.cons (.lit (.int 0)) (.cons (.lit (.int 100)) (.cons (.lit (.int 3)) .nil))))))))) .absent [3]) (.bin .add (.bin .add (.bin .mul (.list (.cons (.lit (.str "number")) .nil)) (.lit (.int 4))) (.bin .mul (.list (.cons (.lit (.str "none")) .nil)) (.lit (.int 2)))) (.list (.cons (.lit (.str "done")) .nil)))) (.cons (.ret (.lit (.bl false))) .nil) .nil) (.cons (.ret (.ands (.cons (.cmp .eq (.comp (.call 2 (.cons (.lit (.int 3)) (.cons (.lit (.int 6)) (.cons (.var 4) (.cons (.lit (.int 0)) .nil))))) (.one 4) (.itup (.tuple (.cons (.lit .non) (.cons (.lit (.int 0)) (.cons (.lit (.int 21)) (.cons (.lit (.bl true)) (.cons (.lit (.int 20)) (.cons (.lit (.int 1)) .nil)))))))) .absent [4]) (.bin .add (.bin .mul (.list (.cons (.lit (.str "number")) .nil)) (.lit (.int 4))) (.bin .mul (.list (.cons (.lit (.str "done")) .nil)) (.lit (.int 2))))) (.cons (.cmp .isb (.call 1 (.cons (.list (.cons (.lit (.int 0)) (.cons (.lit (.int 0)) (.cons (.lit (.int 2)) (.cons (.lit (.int 4)) .nil))))) .nil)) (.lit (.bl true))) (.cons (.cmp .eq (.call 0 (.cons (.list (.cons (.lit (.int 0)) (.cons (.lit (.int 0)) (.cons (.lit (.int 3)) (.cons (.lit (.int 4)) .nil))))) .nil)) (.lit (.int 3))) .nil))))) .nil))))))
def F__law_rows_k16 : Fn := mkFn [F_first_fault, F_is_row, F__law_asked_k16] 0 5 b__law_rows_k16
def b_law_k16 : St := (.cons (.asg 1 (.call 11 (.cons (.var 0) .nil))) (.cons (.asg 2 (.bin .add (.list (.cons (.lit (.str "a")) .nil)) (.comp (.var 3) (.one 3) (.iof (.slice (.call 10 (.cons (.var 1) (.cons (.lit (.int 6)) .nil))) .absent (.opt (.lit (.int 4))))) (.opt (.cmp .ne (.var 3) (.lit (.str "a")))) [3]))) (.cons (.forr (.one 4) (.iof (.list (.cons (.lit .non) (.cons (.lit (.int 5)) (.cons (.tuple .nil) (.cons (.list .nil) (.cons (.tuple (.cons (.lit (.str "a")) .nil)) (.cons (.list (.cons (.lit (.str "k")) .nil)) (.cons (.list (.cons (.lit (.str "A")) .nil)) (.cons (.list (.cons (.lit (.str "ab")) .nil)) (.cons (.list (.cons (.lit (.str "")) .nil)) (.cons (.list (.cons (.lit (.int 1)) .nil)) (.cons (.list (.cons (.lit .non) .nil)) (.cons (.list (.cons (.lit (.str "a")) (.cons (.lit (.str "a")) .nil))) (.cons (.b1 .list (.lit (.str "abcdefg"))) (.cons (.lit (.str "a")) .nil)))))))))))))))) (.cons (.ife (.ors (.cons (.cmp .nisb (.call 9 (.cons (.var 4) .nil)) (.lit (.bl false))) (.cons (.cmp .ne (.comp (.call 7 (.cons (.lit (.int 1)) (.cons (.var 5) (.cons (.var 4) (.cons (.lit .non) .nil))))) (.one 5) (.irng1 (.lit (.int 11))) .absent [5]) (.bin .mul (.list (.cons (.lit (.str "short")) .nil)) (.lit (.int 11)))) (.cons (.cmp .ne (.call 7 (.cons (.lit (.int 3)) (.cons (.lit (.int 12)) (.cons (.var 4) (.cons (.lit (.int 0)) .nil))))) (.lit (.str "short"))) .nil)))) (.cons (.ret (.lit (.bl false))) .nil) .nil) (.cons (.ife (.ors (.cons (.cmp .ne (.comp (.call 7 (.cons (.lit (.int 1)) (.cons (.var 5) (.cons (.var 2) (.cons (.var 4) .nil))))) (.one 5) (.irng1 (.lit (.int 10))) .absent [5]) (.bin .mul (.list (.cons (.lit (.str "short")) .nil)) (.lit (.int 10)))) (.cons (.cmp .ne (.comp (.call 7 (.cons (.lit (.int 2)) (.cons (.var 5) (.cons (.list (.cons (.var 2) (.cons (.var 4) .nil))) (.cons (.lit (.int 0)) .nil))))) (.one 5) (.irng1 (.lit (.int 8))) .absent [5]) (.bin .mul (.list (.cons (.lit (.str "short")) .nil)) (.lit (.int 8)))) .nil))) (.cons (.ret (.lit (.bl false))) .nil) .nil) .nil))) (.cons (.forr (.one 4) (.iof (.list (.cons (.lit .non) (.cons (.lit (.int 5)) (.cons (.tuple .nil) (.cons (.list .nil) (.cons (.tuple (.cons (.list (.cons (.lit (.str "a")) (.cons (.lit (.str "b")) .nil))) .nil)) (.cons (.bin .mul (.list (.cons (.list (.cons (.lit (.str "a")) (.cons (.lit (.str "b")) .nil))) .nil)) (.lit (.int 7))) .nil)))))))) (.cons (.ife (.cmp .ne (.comp (.call 7 (.cons (.lit (.int 2)) (.cons (.var 5) (.cons (.var 4) (.cons (.lit (.int 0)) .nil))))) (.one 5) (.irng1 (.lit (.int 8))) .absent [5]) (.bin .mul (.list (.cons (.lit (.str "short")) .nil)) (.lit (.int 8)))) (.cons (.ret (.lit (.bl false))) .nil) .nil) .nil)) (.cons (.ife (.ors (.cons (.cmp .ne (.comp (.call 7 (.cons (.lit (.int 2)) (.cons (.var 5) (.cons (.bin .mul (.list (.cons (.list (.cons (.lit (.str "a")) (.cons (.lit (.str "b")) .nil))) .nil)) (.lit (.int 6))) (.cons (.lit (.int 0)) .nil))))) (.one 5) (.irng1 (.lit (.int 8))) .absent [5]) (.bin .mul (.list (.cons (.lit (.str "done")) .nil)) (.lit (.int 8)))) (.cons (.cmp .ne (.comp (.call 7 (.cons (.lit (.int 1)) (.cons (.var 5) (.cons (.var 2) (.cons (.list (.cons (.lit (.str "b")) .nil)) .nil))))) (.one 5) (.irng1 (.lit (.int 11))) .absent [5]) (.bin .mul (.list (.cons (.lit (.str "done")) .nil)) (.lit (.int 11)))) .nil))) (.cons (.ret (.lit (.bl false))) .nil) .nil) (.cons (.ife (.ors (.cons (.cmp .nisb (.call 9 (.cons (.b1 .list (.lit (.str "jihgfe"))) .nil)) (.lit (.bl true))) (.cons (.cmp .ne (.call 7 (.cons (.lit (.int 2)) (.cons (.lit (.int 6)) (.cons (.list (.cons (.list (.cons (.lit (.str "a")) .nil)) .nil)) (.cons (.lit (.int 0)) .nil))))) (.lit (.str "short"))) (.cons (.cmp .ne (.call 7 (.cons (.lit (.int 2)) (.cons (.lit (.int 7)) (.cons (.list (.cons (.list (.cons (.lit (.str "c")) .nil)) .nil)) (.cons (.lit (.int 0)) .nil))))) (.lit (.str "done"))) .nil)))) (.cons (.ret (.lit (.bl false))) .nil) .nil) (.cons (.asg 6 (.make 8 (.cons (.list (.cons (.lit (.int 0)) (.cons (.lit (.int 1)) .nil))) (.cons (.list (.cons (.lit (.int 1)) (.cons (.lit (.int 0)) .nil))) .nil)))) (.cons (.ife (.ors (.cons (.cmp .ne (.comp (.call 7 (.cons (.lit (.int 3)) (.cons (.lit (.int 13)) (.cons (.var 6) (.cons (.var 4) .nil))))) (.one 4) (.itup (.tuple (.cons (.lit .non) (.cons (.lit (.int 2)) (.cons (.bin .sub (.lit (.int 0)) (.lit (.int 1))) (.cons (.lit (.bl true)) (.cons (.lit (.bl false)) (.cons (.lit (.str "0")) .nil)))))))) .absent [4]) (.bin .mul (.list (.cons (.lit (.str "number")) .nil)) (.lit (.int 6)))) (.cons (.cmp .ne (.call 7 (.cons (.lit (.int 3)) (.cons (.lit (.int 14)) (.cons (.var 6) (.cons (.lit (.int 0)) .nil))))) (.lit (.str "none"))) (.cons (.cmp .ne (.mcall 6 (.var 6) .nil) (.tuple (.cons (.lit (.int 0)) (.cons (.lit (.int 0)) .nil)))) .nil)))) (.cons (.ret (.lit (.bl false))) .nil) .nil) (.cons (.ife (.ors (.cons (.cmp .ne (.mcall 4 (.var 6) (.cons (.lit (.int 1)) .nil)) (.lit (.int 1))) (.cons (.cmp .ne (.mcall 4 (.var 6) (.cons (.lit (.int 1)) .nil)) (.lit (.int 0))) (.cons (.cmp .ne (.call 7 (.cons (.lit (.int 3)) (.cons (.lit (.int 13)) (.cons (.var 6) (.cons (.lit (.int 1)) .nil))))) (.lit (.str "none"))) (.cons (.cmp .ne (.mcall 6 (.var 6) .nil) (.tuple (.cons (.lit (.int 0)) (.cons (.lit (.int 2)) .nil)))) (.cons (.cmp .ne (.lenr 5 (.var 6)) (.lit (.int 2))) .nil)))))) (.cons (.ret (.lit (.bl false))) .nil) .nil) (.cons (.ret (.ands (.cons (.cmp .eq (.mcall 4 (.var 6) (.cons (.lit (.int 0)) .nil)) (.lit (.int 0))) (.cons (.cmp .eq (.mcall 3 (.var 6) .nil) (.list (.cons (.lit (.int 0)) .nil))) (.cons (.cmp .eq (.mcall 2 (.var 6) .nil) (.list (.cons (.lit (.int 1)) .nil))) (.cons (.call 1 .nil) (.cons (.call 0 .nil) .nil))))))) .nil))))))))))
def F_law_k16 : Fn := mkFn [F__law_letters_k16, F__law_rows_k16, F_Reader_waits, F_Reader_seen, F_Reader_read, F_Reader___len__, F_Reader_depth, F__law_asked_k16, F_Reader___init__, F_is_short, F__law_short, F__law_start] 1 7 b_law_k16
end Tv

set_option linter.all false
set_option maxRecDepth 100000
/-! Plain laws: the evaluator step by step; what comes behind an operand is named, so that it is opened only when its turn comes. -/
namespace Tv.P
open PySem
section
variable (T : List Fn)
def kBin1 (o : Bop) (b : Ex) (e : Env) (x : D) (g : G) : Res D := (evE T b e g).bind fun y g => okR (binD o (dr g x) (dr g y)) g
def kBin2 (o : Bop) (x : D) (y : D) (g : G) : Res D := okR (binD o (dr g x) (dr g y)) g
def kNeg (x : D) (g : G) : Res D := match x with
    | .int i => .ok (.int (-i)) g
    | _ => .stuck
def kNot (x : D) (g : G) : Res D := match x with
    | .bl b => .ok (.bl (!b)) g
    | _ => .stuck
def kCmp1 (o : Cop) (b : Ex) (e : Env) (x : D) (g : G) : Res D := (evE T b e g).bind fun y g => okB (cmpD o x y) g
def kCmp2 (o : Cop) (x y : D) (g : G) : Res D := okB (cmpD o x y) g
def kCh2 (o p : Cop) (c : Ex) (e : Env) (x y : D) (g : G) : Res D := match cmpD o x y with
    | some true => (evE T c e g).bind fun z g => okB (cmpD p y z) g
    | some false => .ok (.bl false) g
    | none => .stuck
def kCh1 (o p : Cop) (b c : Ex) (e : Env) (x : D) (g : G) : Res D := (evE T b e g).bind (kCh2 T o p c e x)
def kIsn (x : D) (g : G) : Res D := .ok (.bl (isNon x)) g
def kNisn (x : D) (g : G) : Res D := .ok (.bl (!isNon x)) g
def kIf (a b : Ex) (e : Env) (x : D) (g : G) : Res D := match x with
    | .bl true => evE T a e g
    | .bl false => evE T b e g
    | _ => .stuck
def kList (xs : List D) (g : G) : Res D := .ok (.lst xs) g
def kTup (xs : List D) (g : G) : Res D := .ok (.tup xs) g
def kSub2 (x y : D) (g : G) : Res D := match y with
    | .int k => okR (subD (dr g x) k) g
    | _ => .stuck
def kSub1 (i : Ex) (e : Env) (x : D) (g : G) : Res D := (evE T i e g).bind (kSub2 x)
def kSl3 (x : D) (l h : Option Int) (g : G) : Res D := okR (cutE (dr g x) l h) g
def kSl2 (hi : Ex) (e : Env) (x : D) (l : Option Int) (g : G) : Res D := (evO T hi e g).bind (kSl3 x l)
def kSl1 (lo hi : Ex) (e : Env) (x : D) (g : G) : Res D := (evO T lo e g).bind (kSl2 T hi e x)
def kRev (x : D) (g : G) : Res D := match x with
    | .lst xs => .ok (.lst xs.reverse) g
    | _ => .stuck
def kSome (y : D) (g : G) : Res (Option D) := .ok (some y) g
def kElt (elt : Ex) (e : Env) (b : Bool) (g : G) : Res (Option D) := if b then (evE T elt e g).bind kSome else .ok none g
def compF (elt : Ex) (tg : Tg) (cond : Ex) (own : List Nat) (e : Env) (d : D) (g : G) : Res (Option D) := match setTg tg d (wipeE e own) with
        | some e1 => (evC T cond e1 g).bind (kElt T elt e1)
        | none => .stuck
def kComp (elt : Ex) (tg : Tg) (cond : Ex) (own : List Nat) (e : Env) (ds : List D) (g : G) : Res D := (nox (compGo (compF T elt tg cond own e) ds g)).bind mkL
def kCall (n : Nat) (xs : List D) (g : G) : Res D := (T.getD n fun _ _ => .stuck) xs g
def kScal (d : D) (g : G) : Res D := if scal d then .ok d g else .stuck
def kCallb (n : Nat) (xs : List D) (g : G) : Res D := ((T.getD n fun _ _ => .stuck) xs g).bind kScal
def kB1 (o : Bi1) (x : D) (g : G) : Res D := okR (b1D o (dr g x)) g
def kB22 (o : Bi2) (x y : D) (g : G) : Res D := okR (b2D o x y) g
def kB2 (o : Bi2) (b : Ex) (e : Env) (x : D) (g : G) : Res D := (evE T b e g).bind (kB22 o x)
def kLst (xs : List D) (g : G) : Res D := .ok (.lst xs) g
def kLrng (x : D) (g : G) : Res D := match x with
    | .int n => (okO (rngD 0 n) g).bind kLst
    | _ => .stuck
def kIs (t : Ty) (x : D) (g : G) : Res D := okB (isTy t x) g
def kMe2 (o : Me) (x y : D) (g : G) : Res D := okR (meD o x y) g
def kMe (o : Me) (b : Ex) (e : Env) (x : D) (g : G) : Res D := if recvD o x then (evE T b e g).bind (kMe2 o x) else .stuck
def kEs2 (x : D) (xs : List D) (g : G) : Res (List D) := .ok (x :: xs) g
def kEs (r : Ex) (e : Env) (x : D) (g : G) : Res (List D) := (evEs T r e g).bind (kEs2 x)
def kAnd (r : Ex) (e : Env) (x : D) (g : G) : Res D := match x with
    | .bl true => evAnd T r e g
    | .bl false => .ok (.bl false) g
    | _ => .stuck
def kOr (r : Ex) (e : Env) (x : D) (g : G) : Res D := match x with
    | .bl false => evOr T r e g
    | .bl true => .ok (.bl true) g
    | _ => .stuck
def kO (x : D) (g : G) : Res (Option Int) := match x with
    | .int i => .ok (some i) g
    | _ => .stuck
def kC (x : D) (g : G) : Res Bool := match x with
    | .bl b => .ok b g
    | _ => .stuck
def kIof (x : D) (g : G) : Res (List D) := match x with
    | .lst xs => .ok xs g
    | _ => .stuck
def kItup (x : D) (g : G) : Res (List D) := match x with
    | .tup xs => .ok xs g
    | _ => .stuck
def kIstr (x : D) (g : G) : Res (List D) := match x with
    | .str s => .ok (chars s) g
    | _ => .stuck
def kR1 (x : D) (g : G) : Res (List D) := match x with
    | .int n => okO (rngD 0 n) g
    | _ => .stuck
def kR22 (x y : D) (g : G) : Res (List D) := match x, y with
    | .int m, .int n => okO (rngD m n) g
    | _, _ => .stuck
def kR2 (b : Ex) (e : Env) (x : D) (g : G) : Res (List D) := (evE T b e g).bind (kR22 x)
def kEn (x : D) (g : G) : Res (List D) := match x with
    | .lst xs => .ok (enumD xs) g
    | _ => .stuck
def kZ2 (x y : D) (g : G) : Res (List D) := match x, y with
    | .lst xs, .lst ys => .ok (zipD xs ys) g
    | _, _ => .stuck
def kZ (b : Ex) (e : Env) (x : D) (g : G) : Res (List D) := (evE T b e g).bind (kZ2 x)
section
variable {T : List Fn} {e : Env} {g : G}
theorem e_var (i : Nat) : evE T (.var i) e g = okR (gt e i) g := id rfl
theorem e_bvar (i : Nat) : evE T (.bvar i) e g = okR (gt e i) g := id rfl
theorem e_lit (d : D) : evE T (.lit d) e g = .ok d g := id rfl
theorem e_gcon (x : Str) (d : D) : evE T (.gcon x d) e g = .ok d g := id rfl
theorem e_bin (o : Bop) (a b : Ex) : evE T (.bin o a b) e g = (evE T a e g).bind (kBin1 T o b e) := id rfl
theorem e_bin1 (o : Bop) (b : Ex) (x : D) : kBin1 T o b e x g = (evE T b e g).bind (kBin2 o x) := id rfl
theorem e_bin2 (o : Bop) (x y : D) : kBin2 o x y g = okR (binD o (dr g x) (dr g y)) g := id rfl
theorem e_neg (a : Ex) : evE T (.neg a) e g = (evE T a e g).bind kNeg := id rfl
theorem e_neg1 (i : Int) : kNeg (.int i) g = .ok (.int (-i)) g := id rfl
theorem e_not (a : Ex) : evE T (.not a) e g = (evE T a e g).bind kNot := id rfl
theorem e_not1 (i : Bool) : kNot (.bl i) g = .ok (.bl (!i)) g := id rfl
theorem e_ands (es : Ex) : evE T (.ands es) e g = evAnd T es e g := id rfl
theorem e_ors (es : Ex) : evE T (.ors es) e g = evOr T es e g := id rfl
theorem e_cmp (o : Cop) (a b : Ex) : evE T (.cmp o a b) e g = (evE T a e g).bind (kCmp1 T o b e) := id rfl
theorem e_cmp1 (o : Cop) (b : Ex) (x : D) : kCmp1 T o b e x g = (evE T b e g).bind (kCmp2 o x) := id rfl
theorem e_cmp2 (o : Cop) (x y : D) : kCmp2 o x y g = okB (cmpD o x y) g := id rfl
theorem e_chain (o p : Cop) (a b c : Ex) : evE T (.chain o p a b c) e g = (evE T a e g).bind (kCh1 T o p b c e) := id rfl
theorem e_ch1 (o p : Cop) (b c : Ex) (x : D) : kCh1 T o p b c e x g = (evE T b e g).bind (kCh2 T o p c e x) := id rfl
theorem e_ch_le (p : Cop) (c : Ex) (i j : Int) : kCh2 T .le p c e (.int i) (.int j) g = if i ≤ j then (evE T c e g).bind (kCmp2 p (.int j)) else .ok (.bl false) g := by
  unfold kCh2
  have : cmpD .le (.int i) (.int j) = some (decide (i ≤ j)) := by
    simp only [cmpD, ltD, Option.map_some]
    by_cases h : j < i
    · rw [decide_eq_true h, decide_eq_false (by omega)]; rfl
    · rw [decide_eq_false h, decide_eq_true (by omega)]; rfl
  rw [this]
  by_cases h : i ≤ j
  · rw [if_pos h, decide_eq_true h]; rfl
  · rw [if_neg h, decide_eq_false h]
theorem e_isn (a : Ex) : evE T (.isn a) e g = (evE T a e g).bind kIsn := id rfl
theorem e_nisn (a : Ex) : evE T (.nisn a) e g = (evE T a e g).bind kNisn := id rfl
theorem e_ife (c a b : Ex) : evE T (.ife c a b) e g = (evE T c e g).bind (kIf T a b e) := id rfl
theorem e_if1 (a b : Ex) : kIf T a b e (.bl true) g = evE T a e g := id rfl
theorem e_if0 (a b : Ex) : kIf T a b e (.bl false) g = evE T b e g := id rfl
theorem e_list (es : Ex) : evE T (.list es) e g = (evEs T es e g).bind kList := id rfl
theorem e_list1 (xs : List D) : kList xs g = .ok (.lst xs) g := id rfl
theorem e_tuple (es : Ex) : evE T (.tuple es) e g = (evEs T es e g).bind kTup := id rfl
theorem e_tup1 (xs : List D) : kTup xs g = .ok (.tup xs) g := id rfl
theorem e_sub (a i : Ex) : evE T (.sub a i) e g = (evE T a e g).bind (kSub1 T i e) := id rfl
theorem e_sub1 (i : Ex) (x : D) : kSub1 T i e x g = (evE T i e g).bind (kSub2 x) := id rfl
theorem e_sub2 (x : D) (k : Int) : kSub2 x (.int k) g = okR (subD (dr g x) k) g := id rfl
theorem e_slice (a lo hi : Ex) : evE T (.slice a lo hi) e g = (evE T a e g).bind (kSl1 T lo hi e) := id rfl
theorem e_sl1 (lo hi : Ex) (x : D) : kSl1 T lo hi e x g = (evO T lo e g).bind (kSl2 T hi e x) := id rfl
theorem e_sl2 (hi : Ex) (x : D) (l : Option Int) : kSl2 T hi e x l g = (evO T hi e g).bind (kSl3 x l) := id rfl
theorem e_sl3 (x : D) (l h : Option Int) : kSl3 x l h g = okR (cutE (dr g x) l h) g := id rfl
theorem e_rev (a : Ex) : evE T (.rev a) e g = (evE T a e g).bind kRev := id rfl
theorem e_rev1 (xs : List D) : kRev (.lst xs) g = .ok (.lst xs.reverse) g := id rfl
theorem e_comp (elt : Ex) (tg : Tg) (it cond : Ex) (own : List Nat) : evE T (.comp elt tg it cond own) e g = (evI T it e g).bind (kComp T elt tg cond own e) := id rfl
theorem e_comp1 (elt : Ex) (tg : Tg) (cond : Ex) (own : List Nat) (ds : List D) : kComp T elt tg cond own e ds g = (nox (compGo (compF T elt tg cond own e) ds g)).bind mkL := id rfl
theorem e_compF1 (elt : Ex) (i : Nat) (cond : Ex) (own : List Nat) (d : D) : compF T elt (.one i) cond own e d g = (evC T cond (Tv.st (wipeE e own) i (some d)) g).bind (kElt T elt (Tv.st (wipeE e own) i (some d))) := id rfl
theorem e_compF2 (elt : Ex) (i j : Nat) (cond : Ex) (own : List Nat) (a b : D) : compF T elt (.tup [i, j]) cond own e (.tup [a, b]) g = (evC T cond (Tv.st (Tv.st (wipeE e own) i (some a)) j (some b)) g).bind (kElt T elt (Tv.st (Tv.st (wipeE e own) i (some a)) j (some b))) := id rfl
theorem e_elt1 (elt : Ex) : kElt T elt e true g = (evE T elt e g).bind kSome := id rfl
theorem e_elt0 (elt : Ex) : kElt T elt e false g = .ok none g := id rfl
theorem e_some (y : D) : kSome y g = .ok (some y) g := id rfl
theorem e_call (n : Nat) (es : Ex) : evE T (.call n es) e g = (evEs T es e g).bind (kCall T n) := id rfl
theorem e_call1 (n : Nat) (xs : List D) : kCall T n xs g = (T.getD n fun _ _ => .stuck) xs g := id rfl
theorem e_callb (n : Nat) (es : Ex) : evE T (.callb n es) e g = (evEs T es e g).bind (kCallb T n) := id rfl
theorem e_callb1 (n : Nat) (xs : List D) : kCallb T n xs g = ((T.getD n fun _ _ => .stuck) xs g).bind kScal := id rfl
theorem e_scali (i : Int) : kScal (.int i) g = .ok (.int i) g := id rfl
theorem e_scalb (i : Bool) : kScal (.bl i) g = .ok (.bl i) g := id rfl
theorem e_scals (i : Str) : kScal (.str i) g = .ok (.str i) g := id rfl
theorem e_scaln : kScal .non g = .ok .non g := id rfl
theorem e_b1 (o : Bi1) (a : Ex) : evE T (.b1 o a) e g = (evE T a e g).bind (kB1 o) := id rfl
theorem e_b11 (o : Bi1) (x : D) : kB1 o x g = okR (b1D o (dr g x)) g := id rfl
theorem e_b2 (o : Bi2) (a b : Ex) : evE T (.b2 o a b) e g = (evE T a e g).bind (kB2 T o b e) := id rfl
theorem e_b21 (o : Bi2) (b : Ex) (x : D) : kB2 T o b e x g = (evE T b e g).bind (kB22 o x) := id rfl
theorem e_b22 (o : Bi2) (x y : D) : kB22 o x y g = okR (b2D o x y) g := id rfl
theorem e_lrng (a : Ex) : evE T (.lrng a) e g = (evE T a e g).bind kLrng := id rfl
theorem e_lrng1 (n : Int) : kLrng (.int n) g = (okO (rngD 0 n) g).bind kLst := id rfl
theorem e_lst (xs : List D) : kLst xs g = .ok (.lst xs) g := id rfl
theorem e_isI (t : Ty) (a : Ex) : evE T (.isI t a) e g = (evE T a e g).bind (kIs t) := id rfl
theorem e_is1 (t : Ty) (x : D) : kIs t x g = okB (isTy t x) g := id rfl
theorem e_meth (o : Me) (a b : Ex) : evE T (.meth o a b) e g = (evE T a e g).bind (kMe T o b e) := id rfl
theorem e_meI (b : Ex) (xs : List D) : kMe T .index b e (.lst xs) g = (evE T b e g).bind (kMe2 .index (.lst xs)) := id rfl
theorem e_me2 (o : Me) (x y : D) : kMe2 o x y g = okR (meD o x y) g := id rfl
theorem e_nil : evEs T .nil e g = .ok [] g := id rfl
theorem e_cons (a r : Ex) : evEs T (.cons a r) e g = (evE T a e g).bind (kEs T r e) := id rfl
theorem e_es (r : Ex) (x : D) : kEs T r e x g = (evEs T r e g).bind (kEs2 x) := id rfl
theorem e_es2 (x : D) (xs : List D) : kEs2 x xs g = .ok (x :: xs) g := id rfl
theorem e_and0 : evAnd T .nil e g = .ok (.bl true) g := id rfl
theorem e_and (a r : Ex) : evAnd T (.cons a r) e g = (evE T a e g).bind (kAnd T r e) := id rfl
theorem e_and1 (r : Ex) (b : Bool) : kAnd T r e (.bl b) g = if b = true then evAnd T r e g else .ok (.bl false) g := by cases b <;> rfl
theorem e_or0 : evOr T .nil e g = .ok (.bl false) g := id rfl
theorem e_or (a r : Ex) : evOr T (.cons a r) e g = (evE T a e g).bind (kOr T r e) := id rfl
theorem e_or1 (r : Ex) (b : Bool) : kOr T r e (.bl b) g = if b = true then .ok (.bl true) g else evOr T r e g := by cases b <;> rfl
theorem e_oa : evO T .absent e g = .ok none g := id rfl
theorem e_oo (a : Ex) : evO T (.opt a) e g = (evE T a e g).bind kO := id rfl
theorem e_o1 (i : Int) : kO (.int i) g = .ok (some i) g := id rfl
theorem e_ca : evC T .absent e g = .ok true g := id rfl
theorem e_co (a : Ex) : evC T (.opt a) e g = (evE T a e g).bind kC := id rfl
theorem e_c1 (b : Bool) : kC (.bl b) g = .ok b g := id rfl
theorem e_iof (a : Ex) : evI T (.iof a) e g = (evE T a e g).bind kIof := id rfl
theorem e_iof1 (xs : List D) : kIof (.lst xs) g = .ok xs g := id rfl
theorem e_itup (a : Ex) : evI T (.itup a) e g = (evE T a e g).bind kItup := id rfl
theorem e_itup1 (xs : List D) : kItup (.tup xs) g = .ok xs g := id rfl
theorem e_istr (a : Ex) : evI T (.istr a) e g = (evE T a e g).bind kIstr := id rfl
theorem e_istr1 (s : Str) : kIstr (.str s) g = .ok (chars s) g := id rfl
theorem e_irng1 (a : Ex) : evI T (.irng1 a) e g = (evE T a e g).bind kR1 := id rfl
theorem e_r1 (n : Int) : kR1 (.int n) g = okO (rngD 0 n) g := id rfl
theorem e_irng2 (a b : Ex) : evI T (.irng2 a b) e g = (evE T a e g).bind (kR2 T b e) := id rfl
theorem e_r2 (b : Ex) (x : D) : kR2 T b e x g = (evE T b e g).bind (kR22 x) := id rfl
theorem e_r22 (m n : Int) : kR22 (.int m) (.int n) g = okO (rngD m n) g := id rfl
theorem e_ienum (a : Ex) : evI T (.ienum a) e g = (evE T a e g).bind kEn := id rfl
theorem e_en1 (xs : List D) : kEn (.lst xs) g = .ok (enumD xs) g := id rfl
theorem e_izip (a b : Ex) : evI T (.izip a b) e g = (evE T a e g).bind (kZ T b e) := id rfl
theorem e_z (b : Ex) (x : D) : kZ T b e x g = (evE T b e g).bind (kZ2 x) := id rfl
theorem e_z2 (xs ys : List D) : kZ2 (.lst xs) (.lst ys) g = .ok (zipD xs ys) g := id rfl
end
end
/-! statements -/
def kRet (d : D) (g : G) : Out := .ret d g
def kAsg (i : Nat) (e : Env) (d : D) (g : G) : Out := .nx (Tv.st e i (some d)) g
def kAsgm (i : Nat) (e : Env) (d : D) (g : G) : Out := match d with
    | .lst _ => if i < e.length then .nx (Tv.st e i (some d)) g else .stuck
    | _ => .stuck
def kUnp (is : List Nat) (e : Env) (d : D) (g : G) : Out := match setTg (.tup is) d e with
    | some e => .nx e g
    | none => .stuck
def kPar (is : List Nat) (e : Env) (ds : List D) (g : G) : Out := match setMany is ds e with
    | some e => .nx e g
    | none => .stuck
def kAug (i : Nat) (o : Bop) (e : Env) (a : Int) (d : D) (g : G) : Out := match d with
      | .int b => match binD o (.int a) (.int b) with
        | some y => .nx (Tv.st e i (some y)) g
        | none => .stuck
      | _ => .stuck
def kSt2 (i : Nat) (e : Env) (xs : List D) (d kd : D) (g : G) : Out := match kd with
      | .int n => match setAt xs n d with
        | some ys => .nx (Tv.st e i (some (.lst ys))) g
        | none => .stuck
      | _ => .stuck
def kSt1 (T : List Fn) (i : Nat) (k : Ex) (e : Env) (xs : List D) (d : D) (g : G) : Out := (evE T k e g).out e (kSt2 i e xs d)
def kSc3 (e : Env) (d c kd : D) (g : G) : Out := match c, kd with
    | .cell m, .int n => match g[m]? with
      | some (.lst xs) => if nolist d then match setAt xs n d with
          | some ys => .nx e (g.set m (.lst ys))
          | none => .stuck
        else .stuck
      | _ => .stuck
    | _, _ => .stuck
def kSc2 (T : List Fn) (k : Ex) (e : Env) (d c : D) (g : G) : Out := (evE T k e g).out e (kSc3 e d c)
def kSc1 (T : List Fn) (a k : Ex) (e : Env) (d : D) (g : G) : Out := (evE T a e g).out e (kSc2 T k e d)
def kApp (i : Nat) (e : Env) (xs : List D) (d : D) (g : G) : Out := if xs.length < cap then .nx (Tv.st e i (some (.lst (xs ++ [d])))) g else .stuck
def kRmv (i : Nat) (e : Env) (xs : List D) (d : D) (g : G) : Out := match rmvD xs d with
      | some ys => .nx (Tv.st e i (some (.lst ys))) g
      | none => .stuck
def kIfS (T : List Fn) (s r : St) (e : Env) (x : D) (g : G) : Out := match x with
    | .bl true => evS T s e g
    | .bl false => evS T r e g
    | _ => .stuck
def forF (T : List Fn) (tg : Tg) (s : St) (d : D) (e : Env) (g : G) : Out := match setTg tg d e with
    | some e => evS T s e g
    | none => .stuck
def kFor (T : List Fn) (tg : Tg) (s : St) (e : Env) (ds : List D) (g : G) : Out := forGo (forF T tg s) ds e g
def kExp (e : Env) (_ : D) (g : G) : Out := .nx e g
def kApp0 (T : List Fn) (i : Nat) (x : Ex) (e : Env) (g : G) (o : Option D) : Out := match o with
    | some (.lst xs) => (evE T x e g).out e (kApp i e xs)
    | _ => .stuck
def kRmv0 (T : List Fn) (i : Nat) (x : Ex) (e : Env) (g : G) (o : Option D) : Out := match o with
    | some (.lst xs) => (evE T x e g).out e (kRmv i e xs)
    | _ => .stuck
def kAug0 (T : List Fn) (i : Nat) (o : Bop) (x : Ex) (e : Env) (g : G) (v : Option D) : Out := match v with
    | some (.int a) => (evE T x e g).out e (kAug i o e a)
    | _ => .stuck
def kSt0 (T : List Fn) (i : Nat) (k x : Ex) (e : Env) (g : G) (o : Option D) : Out := match o with
    | some (.lst xs) => (evE T x e g).out e (kSt1 T i k e xs)
    | _ => .stuck
def kRetm (g : G) (o : Option D) : Out := match o with
    | some d => .ret d g
    | none => .stuck
def kMov (i j : Nat) (e : Env) (g : G) (o : Option D) : Out := match o with
    | some d => .nx (Tv.st (Tv.st e j none) i (some d)) g
    | none => .stuck
section
variable {T : List Fn} {e : Env} {g : G}
theorem s_nil' : evS T .nil e g = .nx e g := id rfl
theorem s_cons' (s r : St) : evS T (.cons s r) e g = (evS T s e g).seq (evS T r) := id rfl
theorem s_pass' : evS T .pass e g = .nx e g := id rfl
theorem s_brk' : evS T .brk e g = .brk e g := id rfl
theorem s_cnt' : evS T .cnt e g = .cnt e g := id rfl
theorem s_retn' : evS T .retn e g = .ret .non g := id rfl
theorem s_ret' (x : Ex) : evS T (.ret x) e g = (evE T x e g).out e kRet := id rfl
theorem s_ret1 (d : D) : kRet d g = .ret d g := id rfl
theorem s_retm' (i : Nat) : evS T (.retm i) e g = kRetm g (gt e i) := id rfl
theorem s_retm1 (d : D) : kRetm g (some d) = .ret d g := id rfl
theorem s_asg' (i : Nat) (x : Ex) : evS T (.asg i x) e g = (evE T x e g).out e (kAsg i e) := id rfl
theorem s_asg1 (i : Nat) (d : D) : kAsg i e d g = .nx (Tv.st e i (some d)) g := id rfl
theorem s_asgm' (i : Nat) (x : Ex) : evS T (.asgm i x) e g = (evE T x e g).out e (kAsgm i e) := id rfl
theorem s_asgm1 (i : Nat) (xs : List D) : kAsgm i e (.lst xs) g = if i < e.length then .nx (Tv.st e i (some (.lst xs))) g else .stuck := id rfl
theorem s_mov' (i j : Nat) : evS T (.mov i j) e g = kMov i j e g (gt e j) := id rfl
theorem s_mov1 (i j : Nat) (d : D) : kMov i j e g (some d) = .nx (Tv.st (Tv.st e j none) i (some d)) g := id rfl
theorem s_unp' (is : List Nat) (x : Ex) : evS T (.unp is x) e g = (evE T x e g).out e (kUnp is e) := id rfl
theorem s_unp2 (i j : Nat) (a b : D) : kUnp [i, j] e (.tup [a, b]) g = .nx (Tv.st (Tv.st e i (some a)) j (some b)) g := id rfl
theorem s_unp3 (i j k : Nat) (a b c : D) : kUnp [i, j, k] e (.tup [a, b, c]) g = .nx (Tv.st (Tv.st (Tv.st e i (some a)) j (some b)) k (some c)) g := id rfl
theorem s_par' (is : List Nat) (es : Ex) : evS T (.par is es) e g = (evEs T es e g).out e (kPar is e) := id rfl
theorem s_par2 (i j : Nat) (a b : D) : kPar [i, j] e [a, b] g = .nx (Tv.st (Tv.st e i (some a)) j (some b)) g := id rfl
theorem s_par3 (i j k : Nat) (a b c : D) : kPar [i, j, k] e [a, b, c] g = .nx (Tv.st (Tv.st (Tv.st e i (some a)) j (some b)) k (some c)) g := id rfl
theorem s_aug' (i : Nat) (o : Bop) (x : Ex) : evS T (.aug i o x) e g = kAug0 T i o x e g (gt e i) := by
  show (match gt e i with
    | some (.int a) => (evE T x e g).out e (kAug i o e a)
    | _ => .stuck) = _
  rfl
theorem s_aug0 (i : Nat) (o : Bop) (x : Ex) (a : Int) : kAug0 T i o x e g (some (.int a)) = (evE T x e g).out e (kAug i o e a) := id rfl
theorem s_augA (i : Nat) (a b : Int) : kAug i .add e a (.int b) g = .nx (Tv.st e i (some (.int (a + b)))) g := id rfl
theorem s_augS (i : Nat) (a b : Int) : kAug i .sub e a (.int b) g = .nx (Tv.st e i (some (.int (a - b)))) g := id rfl
theorem s_augM (i : Nat) (a b : Int) (h : (-(2 ^ 64) < a ∧ a < 2 ^ 64) ∨ (-(2 ^ 64) < b ∧ b < 2 ^ 64)) : kAug i .mul e a (.int b) g = .nx (Tv.st e i (some (.int (a * b)))) g := by simp only [kAug, binD]; rw [if_pos h]
theorem s_seti' (i : Nat) (k x : Ex) : evS T (.seti i k x) e g = kSt0 T i k x e g (gt e i) := id rfl
theorem s_st0 (i : Nat) (k x : Ex) (xs : List D) : kSt0 T i k x e g (some (.lst xs)) = (evE T x e g).out e (kSt1 T i k e xs) := id rfl
theorem s_st1 (i : Nat) (k : Ex) (xs : List D) (d : D) : kSt1 T i k e xs d g = (evE T k e g).out e (kSt2 i e xs d) := id rfl
theorem s_setc' (a k x : Ex) : evS T (.setc a k x) e g = (evE T x e g).out e (kSc1 T a k e) := id rfl
theorem s_sc1 (a k : Ex) (d : D) : kSc1 T a k e d g = (evE T a e g).out e (kSc2 T k e d) := id rfl
theorem s_sc2 (k : Ex) (d c : D) : kSc2 T k e d c g = (evE T k e g).out e (kSc3 e d c) := id rfl
theorem s_app' (i : Nat) (x : Ex) : evS T (.app i x) e g = kApp0 T i x e g (gt e i) := id rfl
theorem s_app0 (i : Nat) (x : Ex) (xs : List D) : kApp0 T i x e g (some (.lst xs)) = (evE T x e g).out e (kApp i e xs) := id rfl
theorem s_rmv' (i : Nat) (x : Ex) : evS T (.rmv i x) e g = kRmv0 T i x e g (gt e i) := id rfl
theorem s_rmv0 (i : Nat) (x : Ex) (xs : List D) : kRmv0 T i x e g (some (.lst xs)) = (evE T x e g).out e (kRmv i e xs) := id rfl
theorem s_ife' (c : Ex) (s r : St) : evS T (.ife c s r) e g = (evE T c e g).out e (kIfS T s r e) := id rfl
theorem s_if1 (s r : St) (b : Bool) : kIfS T s r e (.bl b) g = if b = true then evS T s e g else evS T r e g := by cases b <;> rfl
theorem s_whl' (n : Nat) (c : Ex) (s : St) : evS T (.whl n c s) e g = whlGo (evE T c) (evS T s) n e g := id rfl
theorem s_for' (tg : Tg) (it : Ex) (s : St) : evS T (.forr tg it s) e g = (evI T it e g).out e (kFor T tg s e) := id rfl
theorem s_for1 (tg : Tg) (s : St) (ds : List D) : kFor T tg s e ds g = forGo (forF T tg s) ds e g := id rfl
theorem s_forF1 (i : Nat) (s : St) (d : D) : forF T (.one i) s d e g = evS T s (Tv.st e i (some d)) g := id rfl
theorem s_forF2 (i j : Nat) (s : St) (a b : D) : forF T (.tup [i, j]) s (.tup [a, b]) e g = evS T s (Tv.st (Tv.st e i (some a)) j (some b)) g := id rfl
theorem s_exp' (x : Ex) : evS T (.exp x) e g = (evE T x e g).out e (kExp e) := id rfl
theorem s_exp1 (d : D) : kExp e d g = .nx e g := id rfl
end
end Tv.P

set_option linter.all false
set_option maxRecDepth 100000
/-! Plain laws: rules to evaluate the mirrors. -/
namespace Tv.P
open PySem

@[simp] theorem bind_ok' {α β : Type} (a : α) (g : G) (f : α → G → Res β) : (Res.ok a g).bind f = f a g := id rfl
theorem out_ok {α : Type} (a : α) (g : G) (e : Env) (f : α → G → Out) : (Res.ok a g).out e f = f a g := id rfl
theorem seq_nx (e : Env) (g : G) (f : Env → G → Out) : (Out.nx e g).seq f = f e g := id rfl
theorem seq_ret (d : D) (g : G) (f : Env → G → Out) : (Out.ret d g).seq f = .ret d g := id rfl
theorem seq_cnt (e : Env) (g : G) (f : Env → G → Out) : (Out.cnt e g).seq f = .cnt e g := id rfl
theorem seq_brk (e : Env) (g : G) (f : Env → G → Out) : (Out.brk e g).seq f = .brk e g := id rfl
theorem okR_s (d : D) (g : G) : okR (some d) g = .ok d g := id rfl
theorem okB_s (d : Bool) (g : G) : okB (some d) g = .ok (.bl d) g := id rfl
theorem okO_s {α : Type} (d : α) (g : G) : okO (some d) g = .ok d g := id rfl
theorem nox_ok {α : Type} (a : α) (g : G) : nox (Res.ok a g) = .ok a g := id rfl
theorem dr_int (g : G) (i : Int) : dr g (.int i) = .int i := id rfl
theorem dr_bl (g : G) (i : Bool) : dr g (.bl i) = .bl i := id rfl
theorem dr_str (g : G) (i : Str) : dr g (.str i) = .str i := id rfl
theorem dr_lst (g : G) (i : List D) : dr g (.lst i) = .lst i := id rfl
theorem dr_tup (g : G) (i : List D) : dr g (.tup i) = .tup i := id rfl

/-- a list of whole numbers -/
def ii (xs : List Int) : List D := xs.map .int
abbrev il (xs : List Int) : D := .lst (ii xs)
theorem ii_nil : ([] : List D) = ii [] := id rfl
theorem il_nil : D.lst [] = il [] := id rfl
theorem ii_len (xs : List Int) : (ii xs).length = xs.length := List.length_map ..
theorem ii_app (xs ys : List Int) : ii xs ++ ii ys = ii (xs ++ ys) := List.map_append.symm
theorem ii_snoc (xs : List Int) (i : Int) : ii xs ++ [.int i] = ii (xs ++ [i]) := by simp [ii]
theorem ii_cons (xs : List Int) (i : Int) : D.int i :: ii xs = ii (i :: xs) := id rfl

theorem bin_add (i j : Int) : binD .add (.int i) (.int j) = some (.int (i + j)) := id rfl
theorem bin_sub (i j : Int) : binD .sub (.int i) (.int j) = some (.int (i - j)) := id rfl
theorem bin_mul (i j : Int) (h : (-(2 ^ 64) < i ∧ i < 2 ^ 64) ∨ (-(2 ^ 64) < j ∧ j < 2 ^ 64)) : binD .mul (.int i) (.int j) = some (.int (i * j)) := by simp only [binD]; rw [if_pos h]
theorem bin_fdiv (i j : Int) (h : 0 < j ∧ j < 1073741824) : binD .fdiv (.int i) (.int j) = some (.int (i / j)) := by simp only [binD]; rw [if_pos h]
theorem bin_mod (i j : Int) (h : 0 < j) : binD .mod (.int i) (.int j) = some (.int (i % j)) := by simp only [binD]; rw [if_pos h]
theorem bin_pow (i j : Int) (h : 0 ≤ j ∧ j ≤ 1000 ∧ i.natAbs < 2 ^ 64) : binD .pow (.int i) (.int j) = some (.int (i ^ j.toNat)) := by simp only [binD]; rw [if_pos h]
theorem bin_app (xs ys : List Int) (h : xs.length + ys.length ≤ cap) : binD .add (il xs) (il ys) = some (il (xs ++ ys)) := by
  simp only [binD, ii_len, ii_app]; rw [if_pos h]

theorem eqD_int (i j : Int) : eqD (.int i) (.int j) = decide (i = j) := by simp only [eqD]; by_cases h : i = j <;> simp [h]
theorem eqL_int : ∀ (xs ys : List Int), eqL (ii xs) (ii ys) = decide (xs = ys)
  | [], [] => by simp [eqL, ii]
  | [], y :: ys => by simp [eqL, ii]
  | x :: xs, [] => by simp [eqL, ii]
  | x :: xs, y :: ys => by
    have := eqL_int xs ys
    simp only [ii, List.map_cons, eqL, eqD] at *
    rw [this]
    by_cases h : x = y <;> by_cases h2 : xs = ys <;> simp [h, h2]
theorem pln_int (n : Nat) (i : Int) : pln n (.int i) = true := by cases n <;> rfl
theorem plnL_int (n : Nat) : ∀ (xs : List Int), plnL n (ii xs) = true
  | [] => by cases n <;> rfl
  | x :: xs => by
    have := plnL_int n xs
    simp only [ii, List.map_cons, plnL, pln_int, Bool.true_and] at *
    exact this
theorem pln_il (n : Nat) (xs : List Int) : pln (n + 1) (il xs) = true := by simp only [pln]; exact plnL_int n xs
theorem cmp_eq_int (i j : Int) : cmpD .eq (.int i) (.int j) = some (decide (i = j)) := by simp only [cmpD, pln_int, Bool.and_self, if_true, eqD_int]
theorem cmp_ne_int (i j : Int) : cmpD .ne (.int i) (.int j) = some (!decide (i = j)) := by simp only [cmpD, neD, pln_int, Bool.and_self, if_true, eqD_int]
theorem cmp_lt (i j : Int) : cmpD .lt (.int i) (.int j) = some (decide (i < j)) := id rfl
theorem cmp_gt (i j : Int) : cmpD .gt (.int i) (.int j) = some (decide (j < i)) := id rfl
theorem cmp_le (i j : Int) : cmpD .le (.int i) (.int j) = some (decide (i ≤ j)) := by
  simp only [cmpD, ltD, Option.map_some]
  by_cases h : j < i
  · rw [decide_eq_true h, decide_eq_false (by omega)]; rfl
  · rw [decide_eq_false h, decide_eq_true (by omega)]; rfl
theorem cmp_ge (i j : Int) : cmpD .ge (.int i) (.int j) = some (decide (j ≤ i)) := by
  simp only [cmpD, ltD, Option.map_some]
  by_cases h : i < j
  · rw [decide_eq_true h, decide_eq_false (by omega)]; rfl
  · rw [decide_eq_false h, decide_eq_true (by omega)]; rfl
theorem cmp_eq_il (xs ys : List Int) : cmpD .eq (il xs) (il ys) = some (decide (xs = ys)) := by
  simp only [cmpD, pln_il, Bool.and_self, if_true]
  simp only [il, eqD, eqL_int]
theorem cmp_ne_il (xs ys : List Int) : cmpD .ne (il xs) (il ys) = some (!decide (xs = ys)) := by
  have h : cmpD .ne (il xs) (il ys) = if pln 8 (il xs) && pln 8 (il ys) then some (!eqD (il xs) (il ys)) else none := by
    simp only [cmpD]
    unfold neD
    split
    · rename_i e _; cases e
    · rfl
  rw [h]
  simp only [pln_il, Bool.and_self, if_true]
  simp only [il, eqD, eqL_int]
theorem any_int : ∀ (xs : List Int) (i : Int), (ii xs).any (fun y => eqD y (.int i)) = decide (i ∈ xs)
  | [], i => by simp [ii]
  | x :: xs, i => by
    have := any_int xs i
    simp only [ii, List.map_cons, List.any_cons, eqD_int] at *
    rw [this]
    by_cases h : x = i
    · subst h; simp
    · have h' : i ≠ x := fun z => h z.symm
      simp [h, h', List.mem_cons]
theorem cmp_in (i : Int) (xs : List Int) : cmpD .isin (.int i) (il xs) = some (decide (i ∈ xs)) := by
  simp only [cmpD, inD, il, pln_int, plnL_int, Bool.and_self, if_true, any_int]
theorem cmp_notin (i : Int) (xs : List Int) : cmpD .notin (.int i) (il xs) = some (!decide (i ∈ xs)) := by
  have := cmp_in i xs
  simp only [cmpD] at *
  rw [this]; rfl
theorem cmp_is (a b : Bool) : cmpD .isb (.bl a) (.bl b) = some (decide (a = b)) := id rfl
theorem cmp_nis (a b : Bool) : cmpD .nisb (.bl a) (.bl b) = some (!decide (a = b)) := id rfl

theorem getIs_ii : ∀ (xs : List Int), getIs (ii xs) = some xs
  | [] => rfl
  | x :: xs => by
    have := getIs_ii xs
    simp only [ii, List.map_cons, getIs] at *
    rw [this]; rfl
theorem len_il (xs : List Int) : b1D .len (il xs) = some (.int xs.length) := by simp only [b1D, ii_len]
theorem len_lst (xs : List D) : b1D .len (.lst xs) = some (.int xs.length) := id rfl
theorem sorted_il (xs : List Int) : b1D .sorted (il xs) = some (il (sortI xs)) := by simp only [b1D, sortD, getIs_ii]; rfl
theorem sum_il (xs : List Int) : b1D .sum (il xs) = some (.int xs.sum) := by simp only [b1D, il, getIs_ii, Option.map_some]
theorem abs_int (i : Int) : b1D .abs (.int i) = some (.int (if i < 0 then -i else i)) := id rfl
theorem lenset_il (xs : List Int) (h : xs.length ≤ 1000) : b1D .lenset (il xs) = some (.int (dd [] xs).length) := by
  simp only [b1D, il, dcount, getIs_ii]; rw [if_pos h]; rfl
theorem getBs_bl : ∀ (xs : List Bool), getBs (xs.map .bl) = some xs
  | [] => rfl
  | x :: xs => by
    have := getBs_bl xs
    simp only [List.map_cons, getBs] at *
    rw [this]; rfl
theorem all_bl (xs : List Bool) : b1D .all (.lst (xs.map .bl)) = some (.bl (xs.all id)) := by simp only [b1D, getBs_bl, Option.map_some]
theorem any_bl (xs : List Bool) : b1D .any (.lst (xs.map .bl)) = some (.bl (xs.any id)) := by simp only [b1D, getBs_bl, Option.map_some]
theorem max2 (i j : Int) : b2D .max (.int i) (.int j) = some (.int (if j > i then j else i)) := id rfl
theorem min2 (i j : Int) : b2D .min (.int i) (.int j) = some (.int (if j < i then j else i)) := id rfl
theorem isint_int (i : Int) : isTy .int (.int i) = some true := id rfl
theorem isbool_int (i : Int) : isTy .bool (.int i) = some false := id rfl
theorem islist_il (xs : List Int) : isTy .list (il xs) = some true := id rfl

theorem at_some {α : Type} (xs : List α) (i : Int) (h0 : 0 ≤ i) (h1 : i < xs.length) : L2.atI xs i = xs[i.toNat]? := by
  unfold L2.atI L2.ixN
  rw [if_pos h0, if_pos h1]; rfl
theorem at0 {α : Type} (x : α) (r : List α) : L2.atI (x :: r) 0 = some x := by rw [at_some _ _ (by omega) (by rw [List.length_cons]; omega)]; rfl
theorem at1 {α : Type} (x y : α) (r : List α) : L2.atI (x :: y :: r) 1 = some y := by rw [at_some _ _ (by omega) (by rw [List.length_cons, List.length_cons]; omega)]; rfl
/-- xs[i], for i within -/
def nth (xs : List Int) (i : Int) : Int := xs.getD i.toNat 0
theorem sub_il (xs : List Int) (i : Int) (h0 : 0 ≤ i) (h1 : i < xs.length) : subD (il xs) i = some (.int (nth xs i)) := by
  have hl : i.toNat < xs.length := by omega
  simp only [subD]
  rw [at_some _ _ h0 (by rw [ii_len]; exact h1)]
  simp [nth, hl, ii]
theorem cut_il (xs : List Int) (lo hi : Option Int) : cutE (il xs) lo hi = some (il (cutD xs lo hi)) := by
  simp only [cutE, ii, cutD, List.length_map, il, List.map_drop, List.map_take]

/-- loops -/
theorem for_inv {α : Type} {f : D → Env → G → Out} {φ : α → D} {J : List α → Env → G → Prop} (xs : List α) : ∀ (done : List α) (e : Env) (g : G), J done e g →
    (∀ d x rest e g, done ++ xs = d ++ x :: rest → J d e g → ∃ e' g', (f (φ x) e g = .nx e' g' ∨ f (φ x) e g = .cnt e' g') ∧ J (d ++ [x]) e' g') → ∃ e' g', forGo f (xs.map φ) e g = .nx e' g' ∧ J (done ++ xs) e' g' := by
  induction xs with
  | nil => intro done e g h _; exact ⟨e, g, rfl, by simpa using h⟩
  | cons x xs ih =>
    intro done e g h st
    obtain ⟨e1, g1, h1, j1⟩ := st done x xs e g rfl h
    obtain ⟨e2, g2, h2, j2⟩ := ih (done ++ [x]) e1 g1 j1 (fun d y rest e g he => st d y rest e g (by simpa using he))
    refine ⟨e2, g2, ?_, by simpa using j2⟩
    simp only [List.map_cons, forGo]
    rcases h1 with h1 | h1 <;> rw [h1] <;> exact h2
/-- a comprehension that leaves the store as it is -/
theorem comp_fm {α : Type} {f : D → G → Res (Option D)} {φ : α → D} {r : α → Option D} {g : G} : ∀ (xs : List α), (∀ x ∈ xs, f (φ x) g = .ok (r x) g) → compGo f (xs.map φ) g = .ok (xs.filterMap r) g
  | [], _ => rfl
  | x :: xs, h => by
    have h1 := h x List.mem_cons_self
    have h2 := comp_fm (r := r) xs fun y hy => h y (List.mem_cons_of_mem _ hy)
    simp only [List.map_cons, compGo, h1, h2, bind_ok']
    cases hr : r x <;> simp [List.filterMap_cons, hr]
theorem whl_inv {c : Env → G → Res D} {f : Env → G → Out} {J : Nat → Env → G → Prop} {Post : Env → G → Prop} (st : ∀ m e g, J m e g → (c e g = .ok (.bl false) g ∧ Post e g) ∨ (c e g = .ok (.bl true) g ∧ ∃ e' g' m', (f e g = .nx e' g' ∨ f e g = .cnt e' g') ∧ m' < m ∧ J m' e' g')) :
    ∀ (n m : Nat) (e : Env) (g : G), m < n → J m e g → ∃ e' g', whlGo c f n e g = .nx e' g' ∧ Post e' g'
  | 0, m, _, _, h, _ => by omega
  | n + 1, m, e, g, h, j => by
    rcases st m e g j with ⟨h1, h2⟩ | ⟨h1, e1, g1, m1, h2, h3, h4⟩
    · exact ⟨e, g, by simp only [whlGo, h1, out_ok], h2⟩
    · obtain ⟨e2, g2, h5, h6⟩ := whl_inv st n m1 e1 g1 (by omega) h4
      refine ⟨e2, g2, ?_, h6⟩
      simp only [whlGo, h1, out_ok]
      rcases h2 with h2 | h2 <;> rw [h2] <;> exact h5
end Tv.P

set_option linter.all false
set_option maxRecDepth 100000
/-! Plain laws: the draws. -/
namespace Tv.P
open PySem
theorem pevL : type_of% (And.intro @bind_ok' (And.intro @out_ok (And.intro @seq_nx (And.intro @seq_ret (And.intro @seq_cnt (And.intro @seq_brk (And.intro @okR_s (And.intro @okB_s (And.intro @okO_s (And.intro @dr_int (And.intro @dr_bl (And.intro @dr_str (And.intro @dr_lst (And.intro @dr_tup (And.intro @il_nil (And.intro @ii_len (And.intro @ii_app (And.intro @ii_snoc (And.intro @e_var (And.intro @e_bvar (And.intro @e_lit (And.intro @e_gcon (And.intro @e_bin (And.intro @e_bin1 (And.intro @e_bin2 (And.intro @e_neg (And.intro @e_neg1 (And.intro @e_not (And.intro @e_not1 (And.intro @e_ands (And.intro @e_ors (And.intro @e_cmp (And.intro @e_cmp1 (And.intro @e_cmp2 (And.intro @e_chain (And.intro @e_ch1 (And.intro @e_isn (And.intro @e_nisn (And.intro @e_ife (And.intro @e_if1 (And.intro @e_if0 (And.intro @e_list (And.intro @e_list1 (And.intro @e_tuple (And.intro @e_tup1 (And.intro @e_sub (And.intro @e_sub1 (And.intro @e_sub2 (And.intro @e_slice (And.intro @e_sl1 (And.intro @e_sl2 (And.intro @e_sl3 (And.intro @e_rev (And.intro @e_rev1 (And.intro @e_comp (And.intro @e_comp1 (And.intro @e_compF1 (And.intro @e_compF2 (And.intro @e_elt1 (And.intro @e_elt0 (And.intro @e_some (And.intro @e_call (And.intro @e_call1 (And.intro @e_callb (And.intro @e_callb1 (And.intro @e_scali (And.intro @e_scalb (And.intro @e_scals (And.intro @e_scaln (And.intro @e_b1 (And.intro @e_b11 (And.intro @e_b2 (And.intro @e_b21 (And.intro @e_b22 (And.intro @e_lrng (And.intro @e_lrng1 (And.intro @e_lst (And.intro @e_isI (And.intro @e_is1 (And.intro @e_meth (And.intro @e_meI (And.intro @e_me2 (And.intro @e_nil (And.intro @e_cons (And.intro @e_es (And.intro @e_es2 (And.intro @e_and0 (And.intro @e_and (And.intro @e_and1 (And.intro @e_or0 (And.intro @e_or (And.intro @e_or1 (And.intro @e_oa (And.intro @e_oo (And.intro @e_o1 (And.intro @e_ca (And.intro @e_co (And.intro @e_c1 (And.intro @e_iof (And.intro @e_iof1 (And.intro @e_itup (And.intro @e_itup1 (And.intro @e_istr (And.intro @e_istr1 (And.intro @e_irng1 (And.intro @e_r1 (And.intro @e_irng2 (And.intro @e_r2 (And.intro @e_r22 (And.intro @e_ienum (And.intro @e_en1 (And.intro @e_izip (And.intro @e_z (And.intro @e_z2 (And.intro @s_nil' (And.intro @s_cons' (And.intro @s_pass' (And.intro @s_brk' (And.intro @s_cnt' (And.intro @s_retn' (And.intro @s_ret' (And.intro @s_ret1 (And.intro @s_retm' (And.intro @s_retm1 (And.intro @s_asg' (And.intro @s_asg1 (And.intro @s_asgm' (And.intro @s_asgm1 (And.intro @s_mov' (And.intro @s_mov1 (And.intro @s_unp' (And.intro @s_unp2 (And.intro @s_unp3 (And.intro @s_par' (And.intro @s_par2 (And.intro @s_par3 (And.intro @s_aug' (And.intro @s_aug0 (And.intro @s_augA (And.intro @s_augS (And.intro @s_seti' (And.intro @s_st0 (And.intro @s_st1 (And.intro @s_setc' (And.intro @s_sc1 (And.intro @s_sc2 (And.intro @s_app' (And.intro @s_app0 (And.intro @s_rmv' (And.intro @s_rmv0 (And.intro @s_ife' (And.intro @s_if1 (And.intro @s_whl' (And.intro @s_for' (And.intro @s_for1 (And.intro @s_forF1 (And.intro @s_forF2 (And.intro @s_exp' (And.intro @s_exp1 (And.intro @e_ch_le (And.intro @bin_add (And.intro @bin_sub (And.intro @cmp_eq_int (And.intro @cmp_ne_int (And.intro @cmp_lt (And.intro @cmp_gt (And.intro @cmp_le (And.intro @cmp_ge (And.intro @cmp_eq_il (And.intro @cmp_ne_il (And.intro @cmp_in (And.intro @cmp_notin (And.intro @cmp_is (And.intro @cmp_nis (And.intro @len_il (And.intro @sorted_il (And.intro @sum_il (And.intro @abs_int (And.intro @all_bl (And.intro @any_bl (And.intro @max2 (And.intro @min2 (And.intro @isint_int (And.intro @isbool_int (And.intro @islist_il (And.intro @cut_il (And.intro @decide_eq_true_eq (And.intro @Bool.and_true (And.intro @Bool.and_false (And.intro @Bool.true_and (And.intro @Bool.false_and (And.intro @Bool.and_self (And.intro @Bool.not_true (And.intro @Bool.not_false (And.intro @decide_true (And.intro @decide_false (And.intro @Nat.zero_add (And.intro @Bool.false_eq_true (@nox_ok))))))))))))))))))))))))))))))))))))))))))))))))))))))))))))))))))))))))))))))))))))))))))))))))))))))))))))))))))))))))))))))))))))))))))))))))))))))))))))))))))))))))))))))))))))))))))))))))))))))) := And.intro @bind_ok' (And.intro @out_ok (And.intro @seq_nx (And.intro @seq_ret (And.intro @seq_cnt (And.intro @seq_brk (And.intro @okR_s (And.intro @okB_s (And.intro @okO_s (And.intro @dr_int (And.intro @dr_bl (And.intro @dr_str (And.intro @dr_lst (And.intro @dr_tup (And.intro @il_nil (And.intro @ii_len (And.intro @ii_app (And.intro @ii_snoc (And.intro @e_var (And.intro @e_bvar (And.intro @e_lit (And.intro @e_gcon (And.intro @e_bin (And.intro @e_bin1 (And.intro @e_bin2 (And.intro @e_neg (And.intro @e_neg1 (And.intro @e_not (And.intro @e_not1 (And.intro @e_ands (And.intro @e_ors (And.intro @e_cmp (And.intro @e_cmp1 (And.intro @e_cmp2 (And.intro @e_chain (And.intro @e_ch1 (And.intro @e_isn (And.intro @e_nisn (And.intro @e_ife (And.intro @e_if1 (And.intro @e_if0 (And.intro @e_list (And.intro @e_list1 (And.intro @e_tuple (And.intro @e_tup1 (And.intro @e_sub (And.intro @e_sub1 (And.intro @e_sub2 (And.intro @e_slice (And.intro @e_sl1 (And.intro @e_sl2 (And.intro @e_sl3 (And.intro @e_rev (And.intro @e_rev1 (And.intro @e_comp (And.intro @e_comp1 (And.intro @e_compF1 (And.intro @e_compF2 (And.intro @e_elt1 (And.intro @e_elt0 (And.intro @e_some (And.intro @e_call (And.intro @e_call1 (And.intro @e_callb (And.intro @e_callb1 (And.intro @e_scali (And.intro @e_scalb (And.intro @e_scals (And.intro @e_scaln (And.intro @e_b1 (And.intro @e_b11 (And.intro @e_b2 (And.intro @e_b21 (And.intro @e_b22 (And.intro @e_lrng (And.intro @e_lrng1 (And.intro @e_lst (And.intro @e_isI (And.intro @e_is1 (And.intro @e_meth (And.intro @e_meI (And.intro @e_me2 (And.intro @e_nil (And.intro @e_cons (And.intro @e_es (And.intro @e_es2 (And.intro @e_and0 (And.intro @e_and (And.intro @e_and1 (And.intro @e_or0 (And.intro @e_or (And.intro @e_or1 (And.intro @e_oa (And.intro @e_oo (And.intro @e_o1 (And.intro @e_ca (And.intro @e_co (And.intro @e_c1 (And.intro @e_iof (And.intro @e_iof1 (And.intro @e_itup (And.intro @e_itup1 (And.intro @e_istr (And.intro @e_istr1 (And.intro @e_irng1 (And.intro @e_r1 (And.intro @e_irng2 (And.intro @e_r2 (And.intro @e_r22 (And.intro @e_ienum (And.intro @e_en1 (And.intro @e_izip (And.intro @e_z (And.intro @e_z2 (And.intro @s_nil' (And.intro @s_cons' (And.intro @s_pass' (And.intro @s_brk' (And.intro @s_cnt' (And.intro @s_retn' (And.intro @s_ret' (And.intro @s_ret1 (And.intro @s_retm' (And.intro @s_retm1 (And.intro @s_asg' (And.intro @s_asg1 (And.intro @s_asgm' (And.intro @s_asgm1 (And.intro @s_mov' (And.intro @s_mov1 (And.intro @s_unp' (And.intro @s_unp2 (And.intro @s_unp3 (And.intro @s_par' (And.intro @s_par2 (And.intro @s_par3 (And.intro @s_aug' (And.intro @s_aug0 (And.intro @s_augA (And.intro @s_augS (And.intro @s_seti' (And.intro @s_st0 (And.intro @s_st1 (And.intro @s_setc' (And.intro @s_sc1 (And.intro @s_sc2 (And.intro @s_app' (And.intro @s_app0 (And.intro @s_rmv' (And.intro @s_rmv0 (And.intro @s_ife' (And.intro @s_if1 (And.intro @s_whl' (And.intro @s_for' (And.intro @s_for1 (And.intro @s_forF1 (And.intro @s_forF2 (And.intro @s_exp' (And.intro @s_exp1 (And.intro @e_ch_le (And.intro @bin_add (And.intro @bin_sub (And.intro @cmp_eq_int (And.intro @cmp_ne_int (And.intro @cmp_lt (And.intro @cmp_gt (And.intro @cmp_le (And.intro @cmp_ge (And.intro @cmp_eq_il (And.intro @cmp_ne_il (And.intro @cmp_in (And.intro @cmp_notin (And.intro @cmp_is (And.intro @cmp_nis (And.intro @len_il (And.intro @sorted_il (And.intro @sum_il (And.intro @abs_int (And.intro @all_bl (And.intro @any_bl (And.intro @max2 (And.intro @min2 (And.intro @isint_int (And.intro @isbool_int (And.intro @islist_il (And.intro @cut_il (And.intro @decide_eq_true_eq (And.intro @Bool.and_true (And.intro @Bool.and_false (And.intro @Bool.true_and (And.intro @Bool.false_and (And.intro @Bool.and_self (And.intro @Bool.not_true (And.intro @Bool.not_false (And.intro @decide_true (And.intro @decide_false (And.intro @Nat.zero_add (And.intro @Bool.false_eq_true (@nox_ok))))))))))))))))))))))))))))))))))))))))))))))))))))))))))))))))))))))))))))))))))))))))))))))))))))))))))))))))))))))))))))))))))))))))))))))))))))))))))))))))))))))))))))))))))))))))))))))))))))))

/-- the draws: ns what is left of the script, t the turn -/
def dw (ns : List Int) (t : Int) : G := [.lst (ii ns), .lst [.cell 0, .int t]]
theorem dr_dw1 (ns : List Int) (t : Int) : dr (dw ns t) (.cell 1) = .lst [.cell 0, .int t] := rfl
theorem dr_dw0 (ns : List Int) (t : Int) : dr (dw ns t) (.cell 0) = il ns := rfl
theorem sub0 (x : D) (r : List D) : subD (.lst (x :: r)) 0 = some x := at0 x r
theorem sub1 (x y : D) (r : List D) : subD (.lst (x :: y :: r)) 1 = some y := at1 x y r
theorem dwg1 (ns : List Int) (t : Int) : (dw ns t)[1]? = some (.lst [.cell 0, .int t]) := rfl
theorem dwg0 (ns : List Int) (t : Int) : (dw ns t)[0]? = some (.lst (ii ns)) := rfl
theorem setAt1 (x y d : D) : setAt [x, y] 1 d = some [x, d] := by simp [setAt]
theorem set_dw1 (ns : List Int) (t u : Int) : (dw ns t).set 1 (.lst [.cell 0, .int u]) = dw ns u := rfl
theorem setAt_ii (ns : List Int) (k v : Int) (h0 : 0 ≤ k) (h1 : k < ns.length) : setAt (ii ns) k (.int v) = some (ii (ns.set k.toNat v)) := by
  unfold setAt
  rw [if_pos ⟨h0, by rw [ii_len]; exact h1⟩, ii, ii, List.map_set]
theorem set_dw0 (ns ms : List Int) (t : Int) : (dw ns t).set 0 (.lst (ii ms)) = dw ms t := rfl
theorem draw_ok (ns : List Int) (t lim : Int) (hn : 0 < ns.length) (h0 : 0 < lim) (h1 : lim < 1000000) : ∃ v ns' t', F__law_draw [.cell 1, .int lim] (dw ns t) = .ok (.int v) (dw ns' t') ∧ (0 ≤ v ∧ v < lim) ∧ ns'.length = ns.length := by
  have hp : (0 : Int) < ns.length := by omega
  have e0 : 0 ≤ (t + 1) % (ns.length : Int) := Int.emod_nonneg _ (by omega)
  have e1 : (t + 1) % (ns.length : Int) < ns.length := Int.emod_lt_of_pos _ hp
  unfold F__law_draw b__law_draw
  simp only [pevL, mkFn, gt, st, wipeE, List.length_cons, List.length_nil, List.replicate, List.map_cons, List.map_nil, List.cons_append, List.nil_append, List.append_nil, List.getD_cons_zero, List.getD_cons_succ, Nat.reduceAdd, Nat.reduceSub, Nat.reduceLT, if_true, ite_true, ite_false, reduceIte, Option.map_some, dr_dw1, dr_dw0, sub0, sub1, dwg1, setAt1, set_dw1, nolist, kSc3, bin_mod _ _ hp, sub_il _ _ e0 e1]
  generalize nth ns ((t + 1) % ↑ns.length) = c
  by_cases hc : (1000000000000000000 : Int) ≤ c
  · simp only [pevL, mkFn, gt, st, wipeE, List.length_cons, List.length_nil, List.replicate, List.map_cons, List.map_nil, List.cons_append, List.nil_append, List.append_nil, List.getD_cons_zero, List.getD_cons_succ, Nat.reduceAdd, Nat.reduceSub, Nat.reduceLT, if_true, ite_true, ite_false, reduceIte, Option.map_some, hc, bin_fdiv c lim ⟨h0, by omega⟩, bin_mod c lim h0, dwg0, nolist, kSc3, setAt_ii ns _ (c / lim) e0 e1, set_dw0]
    exact ⟨_, _, _, rfl, ⟨Int.emod_nonneg _ (by omega), Int.emod_lt_of_pos _ h0⟩, by simp⟩
  · have g1 : 0 ≤ (c + 104729 * (t + 1)) % 4294967291 := Int.emod_nonneg _ (by omega)
    have g2 : (c + 104729 * (t + 1)) % 4294967291 < 4294967291 := Int.emod_lt_of_pos _ (by omega)
    simp only [pevL, mkFn, gt, st, wipeE, List.length_cons, List.length_nil, List.replicate, List.map_cons, List.map_nil, List.cons_append, List.nil_append, List.append_nil, List.getD_cons_zero, List.getD_cons_succ, Nat.reduceAdd, Nat.reduceSub, Nat.reduceLT, if_true, ite_true, ite_false, reduceIte, Option.map_some, hc, dr_dw1, sub1, bin_mod _ 4294967291 (by omega), bin_mod _ 4294967279 (by omega), bin_mod _ 4294967231 (by omega), bin_mod _ lim h0, bin_mul 104729 _ (.inl (by omega)), bin_mul _ 69621 (.inr (by omega)), bin_fdiv _ 64 (by omega), bin_fdiv _ 8 (by omega),
      bin_pow _ 5 ⟨by omega, by omega, (by omega : ((c + 104729 * (t + 1)) % 4294967291).natAbs < 2 ^ 64)⟩]
    exact ⟨_, _, _, rfl, ⟨Int.emod_nonneg _ (by omega), Int.emod_lt_of_pos _ h0⟩, rfl⟩
theorem call_nil {T : List Fn} {n : Nat} {g : G} : evEs T .nil [] g = .ok [] g := rfl
theorem pick_ok (ns : List Int) (t : Int) (xs : List Int) (hn : 0 < ns.length) (h0 : 0 < xs.length) (h1 : xs.length < 1000000) : ∃ v ns' t', F__law_pick [.cell 1, il xs] (dw ns t) = .ok (.int v) (dw ns' t') ∧ v ∈ xs ∧ ns'.length = ns.length := by
  obtain ⟨v, ns', t', e, hv, hl⟩ := draw_ok ns t xs.length hn (by omega) (by omega)
  unfold F__law_pick b__law_pick
  simp only [pevL, mkFn, gt, st, wipeE, List.length_cons, List.length_nil, List.replicate, List.map_cons, List.map_nil, List.cons_append, List.nil_append, List.append_nil, List.getD_cons_zero, List.getD_cons_succ, Nat.reduceAdd, Nat.reduceSub, Nat.reduceLT, if_true, ite_true, ite_false, reduceIte, Option.map_some, e, sub_il xs v hv.1 hv.2]
  refine ⟨_, _, _, rfl, ?_, hl⟩
  have hl : v.toNat < xs.length := by omega
  unfold nth
  rw [List.getD_eq_getElem?_getD, List.getElem?_eq_getElem hl]
  exact List.getElem_mem hl
/-- the draws' beginning -/
theorem start_ok (ns : List Int) : ∃ ns', F__law_start [.scr ns] [] = .ok (.cell 1) (dw ns' 0) ∧ 0 < ns'.length := by
  unfold F__law_start b__law_start
  cases ns with
  | nil => exact ⟨[0], rfl, by simp⟩
  | cons n r => exact ⟨n :: r, rfl, by simp⟩
theorem idx_ii : ∀ (xs : List Int) (v : Int), v ∈ xs → ∃ j, idxD (ii xs) (.int v) = some j ∧ (ii xs).eraseIdx j = ii (xs.erase v)
  | [], v, h => by simp at h
  | x :: xs, v, h => by
    show ∃ j, idxD (.int x :: ii xs) (.int v) = some j ∧ (D.int x :: ii xs).eraseIdx j = ii ((x :: xs).erase v)
    simp only [idxD, eqD_int]
    by_cases hx : x = v
    · subst hx
      exact ⟨0, by simp, by simp⟩
    · rcases List.mem_cons.mp h with h | h
      · exact absurd h.symm hx
      · obtain ⟨j, e1, e2⟩ := idx_ii xs v h
        refine ⟨j + 1, by simp [hx, e1], ?_⟩
        rw [List.eraseIdx_cons_succ, e2, List.erase_cons_tail (by simpa using hx)]; rfl
theorem rmv_ii (xs : List Int) (v : Int) (h : v ∈ xs) : rmvD (ii xs) (.int v) = some (ii (xs.erase v)) := by
  obtain ⟨j, e1, e2⟩ := idx_ii xs v h
  unfold rmvD
  have : (ii xs).all isInt = true := by simp [ii, isInt]
  simp only [isInt, this, Bool.and_self, Bool.true_or, if_true, e1, Option.map_some, e2]
def rng (n : Nat) : List Int := (List.range n).map fun (k : Nat) => (k : Int)
theorem rngD_ok0 (n : Nat) (h : n ≤ 1000000) : rngD 0 (n : Int) = some (ii (rng n)) := by
  unfold rngD
  rw [if_pos (by omega)]
  simp [ii, rng]
theorem list_ok (ns : List Int) (t : Int) (n : Nat) (hn : 0 < ns.length) (hs : n ≤ 1000) : ∃ xs ns' t', F__law_list [.cell 1, .int n] (dw ns t) = .ok (il xs) (dw ns' t') ∧ xs.Perm (rng n) ∧ ns'.length = ns.length := by
  unfold F__law_list b__law_list
  simp only [pevL, mkFn, gt, st, wipeE, List.length_cons, List.length_nil, List.replicate, List.map_cons, List.map_nil, List.cons_append, List.nil_append, List.append_nil, List.getD_cons_zero, List.getD_cons_succ, Nat.reduceAdd, Nat.reduceSub, Nat.reduceLT, if_true, ite_true, ite_false, reduceIte, Option.map_some, rngD_ok0 n (by omega)]
  obtain ⟨e', g', h1, xs, u, ns', t', h2, h3, h4, h5⟩ := whl_inv (c := evE [F__law_draw, F__law_pick] (.cmp .ne (.bvar 2) (.list .nil)))
    (f := evS [F__law_draw, F__law_pick] (.cons (.asg 4 (.ife (.cmp .eq (.call 0 (.cons (.var 0) (.cons (.lit (.int 3)) .nil))) (.lit (.int 0))) (.sub (.bvar 2) (.lit (.int 0))) (.callb 1 (.cons (.var 0) (.cons (.bvar 2) .nil))))) (.cons (.rmv 2 (.var 4)) (.cons (.app 3 (.var 4)) .nil))))
    (J := fun m e g => ∃ left found u ns' t', e = [some (.cell 1), some (.int n), some (il left), some (il found), u] ∧ g = dw ns' t' ∧ ns'.length = ns.length ∧ left.length = m ∧ (found ++ left).Perm (rng n))
    (Post := fun e g => ∃ xs u ns' t', e = [some (.cell 1), some (.int n), some (il []), some (il xs), u] ∧ g = dw ns' t' ∧ xs.Perm (rng n) ∧ ns'.length = ns.length) (by
        rintro m e g ⟨left, found, u, ns', t', rfl, rfl, hl, hm, hp⟩
        by_cases hz : left = []
        · subst hz
          refine .inl ⟨rfl, found, u, ns', t', rfl, rfl, by simpa using hp, hl⟩
        · refine .inr ⟨?_, ?_⟩
          · simp only [pevL, mkFn, gt, st, wipeE, List.length_cons, List.length_nil, List.replicate, List.map_cons, List.map_nil, List.cons_append, List.nil_append, List.append_nil, List.getD_cons_zero, List.getD_cons_succ, Nat.reduceAdd, Nat.reduceSub, Nat.reduceLT, if_true, ite_true, ite_false, reduceIte, Option.map_some, hz]
          · have hpos : 0 < left.length := List.length_pos_iff.mpr hz
            have hle : found.length + left.length = n := by have := hp.length_eq; simpa [rng] using this
            obtain ⟨v, ns2, t2, e2, hv, hl2⟩ := draw_ok ns' t' 3 (by omega) (by omega) (by omega)
            have key : ∃ x ns3 t3, x ∈ left ∧ ns3.length = ns.length ∧ evE [F__law_draw, F__law_pick] (.ife (.cmp .eq (.call 0 (.cons (.var 0) (.cons (.lit (.int 3)) .nil))) (.lit (.int 0))) (.sub (.bvar 2) (.lit (.int 0))) (.callb 1 (.cons (.var 0) (.cons (.bvar 2) .nil)))) [some (.cell 1), some (.int n), some (il left), some (il found), u] (dw ns' t') = .ok (.int x) (dw ns3 t3) := by
              by_cases h0 : v = 0
              · refine ⟨nth left 0, ns2, t2, ?_, by omega, ?_⟩
                · cases left with
                  | nil => exact absurd rfl hz
                  | cons a b => simp [nth]
                · simp only [pevL, mkFn, gt, st, wipeE, List.length_cons, List.length_nil, List.replicate, List.map_cons, List.map_nil, List.cons_append, List.nil_append, List.append_nil, List.getD_cons_zero, List.getD_cons_succ, Nat.reduceAdd, Nat.reduceSub, Nat.reduceLT, if_true, ite_true, ite_false, reduceIte, Option.map_some, e2, h0, sub_il left 0 (by omega) (by omega)]
              · obtain ⟨x, ns3, t3, e3, hx, hl3⟩ := pick_ok ns2 t2 left (by omega) hpos (by omega)
                refine ⟨x, ns3, t3, hx, by omega, ?_⟩
                simp only [pevL, mkFn, gt, st, wipeE, List.length_cons, List.length_nil, List.replicate, List.map_cons, List.map_nil, List.cons_append, List.nil_append, List.append_nil, List.getD_cons_zero, List.getD_cons_succ, Nat.reduceAdd, Nat.reduceSub, Nat.reduceLT, if_true, ite_true, ite_false, reduceIte, Option.map_some, e2, h0, e3, scal]
            obtain ⟨x, ns3, t3, hx, hl3, ek⟩ := key
            refine ⟨_, dw ns3 t3, (left.erase x).length, .inl ?_, ?_, left.erase x, found ++ [x], some (.int x), ns3, t3, rfl, rfl, hl3, rfl, ?_⟩
            · simp only [s_cons', s_asg', ek, out_ok, s_asg1, seq_nx, st, gt, s_rmv', s_rmv0, s_app', s_app0, e_var, okR_s, kRmv, rmv_ii left x hx, kApp, ii_len, s_nil']
              rw [if_pos (by unfold cap; omega)]
              simp only [ii_snoc, seq_nx, s_nil']
            · rw [List.length_erase_of_mem hx]; omega
            · have h7 : (found ++ [x] ++ left.erase x).Perm (found ++ left) := by
                rw [List.append_assoc]
                exact List.Perm.append_left _ (List.perm_cons_erase hx).symm
              exact h7.trans hp) 100000 n [some (.cell 1), some (.int n), some (il (rng n)), some (il []), none] (dw ns t) (by omega)
    ⟨rng n, [], none, ns, t, rfl, rfl, rfl, by simp [rng], by simp⟩
  rw [h1]
  subst h2 h3
  exact ⟨xs, ns', t', rfl, h4, h5⟩
end Tv.P

set_option linter.all false
set_option maxRecDepth 100000
/-! Plain laws: lists of things. -/
namespace Tv.P
open PySem
theorem mem_rng {n : Nat} {x : Int} : x ∈ rng n ↔ 0 ≤ x ∧ x < n := by
  unfold rng
  simp only [List.mem_map, List.mem_range]
  constructor
  · rintro ⟨k, hk, rfl⟩; omega
  · rintro ⟨h0, h1⟩; exact ⟨x.toNat, by omega, by omega⟩
theorem rng_len (n : Nat) : (rng n).length = n := by simp [rng]
theorem rng_nodup (n : Nat) : (rng n).Nodup := by
  unfold rng
  refine List.Pairwise.map _ (fun a b h => ?_) List.nodup_range
  omega
/-- a list of the things 0 to n - 1 -/
structure Full (xs : List Int) (n : Nat) : Prop where
  perm : xs.Perm (rng n)
  pos : 1 ≤ n
  most : n ≤ 7
section
variable {xs ys one other : List Int} {n : Nat}
theorem Full.len (h : Full xs n) : xs.length = n := by rw [h.perm.length_eq, rng_len]
theorem Full.mem (h : Full xs n) {x : Int} : x ∈ xs ↔ 0 ≤ x ∧ x < n := by rw [h.perm.mem_iff, mem_rng]
theorem Full.nodup (h : Full xs n) : xs.Nodup := h.perm.nodup_iff.mpr (rng_nodup n)
end
theorem dd_nodup {α : Type} [DecidableEq α] : ∀ (xs acc : List α), (∀ x ∈ xs, x ∉ acc) → xs.Nodup → dd acc xs = acc ++ xs
  | [], acc, _, _ => by simp [dd]
  | x :: xs, acc, h, nd => by
    have h1 := h x List.mem_cons_self
    obtain ⟨n1, n2⟩ := List.nodup_cons.mp nd
    unfold dd
    rw [if_neg h1, dd_nodup xs (acc ++ [x]) (fun y hy z => ?_) n2]
    · simp
    · rcases List.mem_append.mp z with z | z
      · exact h y (List.mem_cons_of_mem _ hy) z
      · simp at z; subst z; exact n1 hy
/-! comprehensions over whole numbers -/
theorem comp_int {f : D → G → Res (Option D)} {g : G} (p : Int → Bool) (h : Int → Int) (xs : List Int) (H : ∀ x ∈ xs, f (.int x) g = .ok (if p x = true then some (.int (h x)) else none) g) : compGo f (ii xs) g = .ok (ii ((xs.filter p).map h)) g := by
  have := comp_fm (φ := D.int) (f := f) (g := g) (r := fun x => if p x = true then some (.int (h x)) else none) xs H
  rw [ii, this]
  congr 1
  clear this H
  induction xs with
  | nil => rfl
  | cons x xs ih =>
    by_cases hp : p x = true
    · simp [List.filterMap_cons, List.filter_cons, hp, ii] at ih ⊢; exact ih
    · simp only [Bool.not_eq_true] at hp
      simp [List.filterMap_cons, List.filter_cons, hp, ii] at ih ⊢; exact ih
theorem comp_all {f : D → G → Res (Option D)} {g : G} {α : Type} {φ : α → D} (h : α → D) (xs : List α) (H : ∀ x ∈ xs, f (φ x) g = .ok (some (h x)) g) : compGo f (xs.map φ) g = .ok (xs.map h) g := by
  rw [comp_fm (φ := φ) (f := f) (g := g) (r := fun x => some (h x)) xs H]
  congr 1
  simp
theorem app_ok {i : Nat} {e : Env} {xs : List D} {d : D} {g : G} (h : xs.length ≤ 1000) : kApp i e xs d g = .nx (Tv.st e i (some (.lst (xs ++ [d])))) g := by
  unfold kApp
  rw [if_pos (Nat.lt_of_le_of_lt h (by decide))]
theorem mkL_ok {xs : List D} {g : G} (h : xs.length ≤ 1000) : mkL xs g = .ok (.lst xs) g := by unfold mkL; rw [if_pos (Nat.le_trans h (by decide))]
theorem ifb {p : Prop} [Decidable p] {α : Type} {a b : α} : (if decide p = true then a else b) = if p then a else b := by by_cases h : p <;> simp [h]
theorem cut_to {α : Type} (xs : List α) (k : Int) (h : 0 ≤ k) : cutD xs none (some k) = xs.take k.toNat := by
  unfold cutD HT.sIx
  simp only [List.drop_zero, Nat.sub_zero]
  rw [if_neg (by omega)]
  by_cases hk : k.toNat ≤ xs.length
  · rw [Nat.min_eq_left hk]
  · rw [Nat.min_eq_right (by omega), List.take_of_length_le (by omega), List.take_of_length_le (by omega)]
theorem cut_from {α : Type} (xs : List α) (k : Int) (h : 0 ≤ k) : cutD xs (some k) none = xs.drop k.toNat := by
  simp only [cutD, HT.sIx]
  rw [if_neg (by omega)]
  by_cases hk : k.toNat ≤ xs.length
  · rw [Nat.min_eq_left hk, List.take_of_length_le (by simp)]
  · rw [Nat.min_eq_right (by omega), List.drop_of_length_le (by omega), List.drop_of_length_le (by omega)]; simp

/-! the program's tests -/
theorem is_int_ok (g : G) (v lo hi : Int) : F_is_int [.int v, .int lo, .int hi] g = .ok (.bl (decide (lo ≤ v) && decide (v ≤ hi))) g := by
  unfold F_is_int b_is_int
  simp only [pevL, mkFn, gt, st, wipeE, List.length_cons, List.length_nil, List.replicate, List.map_cons, List.map_nil, List.cons_append, List.nil_append, List.append_nil, List.getD_cons_zero, List.getD_cons_succ, Nat.reduceAdd, Nat.reduceSub, Nat.reduceLT, if_true, ite_true, ite_false, reduceIte, Option.map_some]
  by_cases h : lo ≤ v
  · by_cases h2 : v ≤ hi
    · simp only [pevL, mkFn, gt, st, wipeE, List.length_cons, List.length_nil, List.replicate, List.map_cons, List.map_nil, List.cons_append, List.nil_append, List.append_nil, List.getD_cons_zero, List.getD_cons_succ, Nat.reduceAdd, Nat.reduceSub, Nat.reduceLT, if_true, ite_true, ite_false, reduceIte, Option.map_some, h, h2]
    · simp only [pevL, mkFn, gt, st, wipeE, List.length_cons, List.length_nil, List.replicate, List.map_cons, List.map_nil, List.cons_append, List.nil_append, List.append_nil, List.getD_cons_zero, List.getD_cons_succ, Nat.reduceAdd, Nat.reduceSub, Nat.reduceLT, if_true, ite_true, ite_false, reduceIte, Option.map_some, h, h2]
  · simp only [pevL, mkFn, gt, st, wipeE, List.length_cons, List.length_nil, List.replicate, List.map_cons, List.map_nil, List.cons_append, List.nil_append, List.append_nil, List.getD_cons_zero, List.getD_cons_succ, Nat.reduceAdd, Nat.reduceSub, Nat.reduceLT, if_true, ite_true, ite_false, reduceIte, Option.map_some, h]
theorem is_full_ok (g : G) {xs : List Int} {n : Nat} (h : Full xs n) : F_is_full [il xs] g = .ok (.bl true) g := by
  have hl := h.len
  have hn := h.pos
  have hm := h.most
  unfold F_is_full b_is_full
  have h1 : (1 : Int) ≤ xs.length := by omega
  have h7 : (xs.length : Int) ≤ 7 := by omega
  simp only [pevL, mkFn, gt, st, wipeE, List.length_cons, List.length_nil, List.replicate, List.map_cons, List.map_nil, List.cons_append, List.nil_append, List.append_nil, List.getD_cons_zero, List.getD_cons_succ, Nat.reduceAdd, Nat.reduceSub, Nat.reduceLT, if_true, ite_true, ite_false, reduceIte, Option.map_some, h1, h7]
  rw [show compGo _ (ii xs) g = compGo _ (xs.map .int) g from rfl, comp_all (h := fun _ => .bl true)]
  · simp only [pevL, mkFn, gt, st, wipeE, List.length_cons, List.length_nil, List.replicate, List.map_cons, List.map_nil, List.cons_append, List.nil_append, List.append_nil, List.getD_cons_zero, List.getD_cons_succ, Nat.reduceAdd, Nat.reduceSub, Nat.reduceLT, if_true, ite_true, ite_false, reduceIte, Option.map_some]
    rw [mkL_ok (by simp; omega)]
    simp only [pevL, mkFn, gt, st, wipeE, List.length_cons, List.length_nil, List.replicate, List.map_cons, List.map_nil, List.cons_append, List.nil_append, List.append_nil, List.getD_cons_zero, List.getD_cons_succ, Nat.reduceAdd, Nat.reduceSub, Nat.reduceLT, if_true, ite_true, ite_false, reduceIte, Option.map_some]
    have e : b1D .all (.lst (xs.map fun _ => D.bl true)) = some (.bl true) := by
      have := all_bl (xs.map fun _ => true)
      rw [List.map_map] at this
      rw [show (xs.map fun _ => D.bl true) = xs.map (D.bl ∘ fun _ => true) from rfl, this]
      simp
    simp only [pevL, mkFn, gt, st, wipeE, List.length_cons, List.length_nil, List.replicate, List.map_cons, List.map_nil, List.cons_append, List.nil_append, List.append_nil, List.getD_cons_zero, List.getD_cons_succ, Nat.reduceAdd, Nat.reduceSub, Nat.reduceLT, if_true, ite_true, ite_false, reduceIte, Option.map_some, e]
    have e2 := lenset_il xs (by omega)
    rw [dd_nodup xs [] (by simp) h.nodup] at e2
    simp only [pevL, mkFn, gt, st, wipeE, List.length_cons, List.length_nil, List.replicate, List.map_cons, List.map_nil, List.cons_append, List.nil_append, List.append_nil, List.getD_cons_zero, List.getD_cons_succ, Nat.reduceAdd, Nat.reduceSub, Nat.reduceLT, if_true, ite_true, ite_false, reduceIte, Option.map_some, show D.lst (xs.map D.int) = il xs from rfl, e2]
  · intro x hx
    have := h.mem.mp hx
    simp only [pevL, mkFn, gt, st, wipeE, List.length_cons, List.length_nil, List.replicate, List.map_cons, List.map_nil, List.cons_append, List.nil_append, List.append_nil, List.getD_cons_zero, List.getD_cons_succ, Nat.reduceAdd, Nat.reduceSub, Nat.reduceLT, if_true, ite_true, ite_false, reduceIte, Option.map_some, e_compF1, is_int_ok, show D.lst (xs.map D.int) = il xs from rfl]
    have e1 : decide ((0 : Int) ≤ x) = true := by simp; omega
    have e2 : decide (x ≤ (xs.length : Int) - 1) = true := by simp; omega
    simp only [pevL, mkFn, gt, st, wipeE, List.length_cons, List.length_nil, List.replicate, List.map_cons, List.map_nil, List.cons_append, List.nil_append, List.append_nil, List.getD_cons_zero, List.getD_cons_succ, Nat.reduceAdd, Nat.reduceSub, Nat.reduceLT, if_true, ite_true, ite_false, reduceIte, Option.map_some, e1, e2]
theorem check_full_ok (g : G) {xs : List Int} {n : Nat} (h : Full xs n) : F_check_full [il xs] g = .ok .non g := by
  unfold F_check_full b_check_full
  simp only [pevL, mkFn, gt, st, wipeE, List.length_cons, List.length_nil, List.replicate, List.map_cons, List.map_nil, List.cons_append, List.nil_append, List.append_nil, List.getD_cons_zero, List.getD_cons_succ, Nat.reduceAdd, Nat.reduceSub, Nat.reduceLT, if_true, ite_true, ite_false, reduceIte, Option.map_some, is_full_ok g h]
theorem check_both_ok (g : G) {one other : List Int} {n : Nat} (h : Full one n) (h2 : Full other n) : F_check_both [il one, il other] g = .ok .non g := by
  unfold F_check_both b_check_both
  simp only [pevL, mkFn, gt, st, wipeE, List.length_cons, List.length_nil, List.replicate, List.map_cons, List.map_nil, List.cons_append, List.nil_append, List.append_nil, List.getD_cons_zero, List.getD_cons_succ, Nat.reduceAdd, Nat.reduceSub, Nat.reduceLT, if_true, ite_true, ite_false, reduceIte, Option.map_some, check_full_ok g h, check_full_ok g h2, h.len, h2.len]
def rngI (lo hi : Int) : List Int := (List.range (hi - lo).toNat).map fun k => lo + (k : Nat)
theorem rngD_ii (lo hi : Int) (h : -1000000 ≤ lo ∧ lo ≤ 1000000 ∧ -1000000 ≤ hi ∧ hi ≤ 1000000) : rngD lo hi = some (ii (rngI lo hi)) := by
  unfold rngD
  rw [if_pos h]
  simp [ii, rngI]
theorem mem_rngI {lo hi x : Int} : x ∈ rngI lo hi ↔ lo ≤ x ∧ x < hi := by
  unfold rngI
  simp only [List.mem_map, List.mem_range]
  constructor
  · rintro ⟨k, hk, rfl⟩; omega
  · rintro ⟨h0, h1⟩; exact ⟨(x - lo).toNat, by omega, by omega⟩
/-- how many of the first k are common -/
def both (one other : List Int) (k : Nat) : List Int := (one.take k).filter fun x => decide (x ∈ other.take k)
def rowI (one other : List Int) : List Int := (rngI 1 (one.length + 1)).map fun k => ((both one other k.toNat).length : Int)
theorem row_of_ok (g : G) (one other : List Int) (hl : one.length ≤ 1000) : F_row_of [il one, il other] g = .ok (il (rowI one other)) g := by
  unfold F_row_of b_row_of
  simp only [pevL, mkFn, gt, st, wipeE, List.length_cons, List.length_nil, List.replicate, List.map_cons, List.map_nil, List.cons_append, List.nil_append, List.append_nil, List.getD_cons_zero, List.getD_cons_succ, Nat.reduceAdd, Nat.reduceSub, Nat.reduceLT, if_true, ite_true, ite_false, reduceIte, Option.map_some, rngD_ii 1 (one.length + 1) (by omega)]
  obtain ⟨e', g', h1, u, h2, h3⟩ := for_inv (f := forF [] (.one 3) (.cons (.app 2 (.b1 .len (.comp (.var 4) (.one 4) (.iof (.slice (.var 0) .absent (.opt (.var 3)))) (.opt (.cmp .isin (.var 4) (.slice (.var 1) .absent (.opt (.var 3))))) [4]))) .nil)) (φ := D.int)
    (J := fun done e g' => ∃ u, e = [some (il one), some (il other), some (il (done.map fun k => ((both one other k.toNat).length : Int))), u, none] ∧ g' = g)
    (rngI 1 (one.length + 1)) [] [some (il one), some (il other), some (il []), none, none] g ⟨none, rfl, rfl⟩ (by
      rintro d x rest e g' hd ⟨u, rfl, rfl⟩
      have hx : x ∈ rngI 1 (one.length + 1) := by rw [List.nil_append] at hd; rw [hd]; simp
      have hx := mem_rngI.mp hx
      have hdl : d.length ≤ 1000 := by
        have := congrArg List.length hd
        simp [rngI] at this; omega
      refine ⟨_, _, .inl ?_, ⟨some (.int x), rfl, rfl⟩⟩
      simp only [pevL, mkFn, gt, st, wipeE, List.length_cons, List.length_nil, List.replicate, List.map_cons, List.map_nil, List.cons_append, List.nil_append, List.append_nil, List.getD_cons_zero, List.getD_cons_succ, Nat.reduceAdd, Nat.reduceSub, Nat.reduceLT, if_true, ite_true, ite_false, reduceIte, Option.map_some, s_forF1, cut_to one x (by omega), cut_to other x (by omega)]
      rw [comp_int (fun y => decide (y ∈ other.take x.toNat)) (fun y => y)]
      · have hb : (both one other x.toNat).length ≤ 1000 := Nat.le_trans (List.length_filter_le _ _) (by rw [List.length_take]; omega)
        rw [List.map_id', show List.filter (fun y => decide (y ∈ other.take x.toNat)) (one.take x.toNat) = both one other x.toNat from rfl]
        simp only [pevL, mkFn, gt, st, wipeE, List.length_cons, List.length_nil, List.replicate, List.map_cons, List.map_nil, List.cons_append, List.nil_append, List.append_nil, List.getD_cons_zero, List.getD_cons_succ, Nat.reduceAdd, Nat.reduceSub, Nat.reduceLT, if_true, ite_true, ite_false, reduceIte, Option.map_some, mkL_ok (show (ii (both one other x.toNat)).length ≤ 1000 by rw [ii_len]; exact hb), app_ok (show (ii (d.map fun k => ((both one other k.toNat).length : Int))).length ≤ 1000 by rw [ii_len, List.length_map]; exact hdl), List.map_append]
      · intro y hy
        simp only [pevL, mkFn, gt, st, wipeE, List.length_cons, List.length_nil, List.replicate, List.map_cons, List.map_nil, List.cons_append, List.nil_append, List.append_nil, List.getD_cons_zero, List.getD_cons_succ, Nat.reduceAdd, Nat.reduceSub, Nat.reduceLT, if_true, ite_true, ite_false, reduceIte, Option.map_some, e_compF1, cut_to other x (by omega)]
        by_cases hz : y ∈ other.take x.toNat
        · simp only [pevL, mkFn, gt, st, wipeE, List.length_cons, List.length_nil, List.replicate, List.map_cons, List.map_nil, List.cons_append, List.nil_append, List.append_nil, List.getD_cons_zero, List.getD_cons_succ, Nat.reduceAdd, Nat.reduceSub, Nat.reduceLT, if_true, ite_true, ite_false, reduceIte, Option.map_some, hz]
        · simp only [pevL, mkFn, gt, st, wipeE, List.length_cons, List.length_nil, List.replicate, List.map_cons, List.map_nil, List.cons_append, List.nil_append, List.append_nil, List.getD_cons_zero, List.getD_cons_succ, Nat.reduceAdd, Nat.reduceSub, Nat.reduceLT, if_true, ite_true, ite_false, reduceIte, Option.map_some, hz])
  rw [show ii (rngI 1 (one.length + 1)) = (rngI 1 (one.length + 1)).map .int from rfl, h1]
  subst h2 h3
  simp only [pevL, mkFn, gt, st, wipeE, List.length_cons, List.length_nil, List.replicate, List.map_cons, List.map_nil, List.cons_append, List.nil_append, List.append_nil, List.getD_cons_zero, List.getD_cons_succ, Nat.reduceAdd, Nat.reduceSub, Nat.reduceLT, if_true, ite_true, ite_false, reduceIte, Option.map_some, rowI]
end Tv.P

set_option linter.all false
set_option maxRecDepth 100000
/-! Plain laws: sorting, fractions, rows. -/
namespace Tv.P
open PySem
/-! sorting -/
theorem insI_perm (x : Int) : ∀ xs : List Int, (insI x xs).Perm (x :: xs)
  | [] => .refl _
  | y :: r => by
    unfold insI
    split
    · exact .refl _
    · exact ((insI_perm x r).cons y).trans (.swap x y r)
theorem sortI_perm : ∀ xs : List Int, (sortI xs).Perm xs
  | [] => .refl _
  | x :: r => (insI_perm x (sortI r)).trans ((sortI_perm r).cons x)
theorem insI_sorted (x : Int) : ∀ xs : List Int, xs.Pairwise (· ≤ ·) → (insI x xs).Pairwise (· ≤ ·)
  | [], _ => by simp [insI]
  | y :: r, h => by
    obtain ⟨h1, h2⟩ := List.pairwise_cons.mp h
    unfold insI
    split
    · rename_i hxy
      refine List.pairwise_cons.mpr ⟨fun z hz => ?_, h⟩
      rcases List.mem_cons.mp hz with rfl | hz
      · exact hxy
      · exact Int.le_trans hxy (h1 z hz)
    · rename_i hxy
      refine List.pairwise_cons.mpr ⟨fun z hz => ?_, insI_sorted x r h2⟩
      rcases List.mem_cons.mp ((insI_perm x r).mem_iff.mp hz) with rfl | hz
      · omega
      · exact h1 z hz
theorem sortI_sorted : ∀ xs : List Int, (sortI xs).Pairwise (· ≤ ·)
  | [] => .nil
  | x :: r => insI_sorted x _ (sortI_sorted r)
theorem sorted_eq : ∀ {xs ys : List Int}, xs.Perm ys → xs.Pairwise (· ≤ ·) → ys.Pairwise (· ≤ ·) → xs = ys
  | [], ys, h, _, _ => h.nil_eq.symm ▸ rfl
  | x :: xs, [], h, _, _ => absurd h.length_eq (by simp)
  | x :: xs, y :: ys, h, h1, h2 => by
    obtain ⟨a1, a2⟩ := List.pairwise_cons.mp h1
    obtain ⟨b1, b2⟩ := List.pairwise_cons.mp h2
    have e : x = y := by
      have m1 : x ∈ y :: ys := h.mem_iff.mp List.mem_cons_self
      have m2 : y ∈ x :: xs := h.mem_iff.mpr List.mem_cons_self
      rcases List.mem_cons.mp m1 with e | m1
      · exact e
      · rcases List.mem_cons.mp m2 with e | m2
        · exact e.symm
        · have := b1 x m1; have := a1 y m2; omega
    subst e
    rw [sorted_eq (List.perm_cons x |>.mp h) a2 b2]
/-- what a sorted list is, by its members -/
theorem sort_is {xs ys : List Int} (n1 : xs.Nodup) (n2 : ys.Nodup) (s : ys.Pairwise (· ≤ ·)) (h : ∀ x, x ∈ xs ↔ x ∈ ys) : sortI xs = ys :=
  sorted_eq ((sortI_perm xs).trans ((List.perm_ext_iff_of_nodup n1 n2).mpr h)) (sortI_sorted xs) s
theorem rngI_sorted (lo hi : Int) : (rngI lo hi).Pairwise (· < ·) := by
  unfold rngI
  exact List.Pairwise.map _ (fun a b h => by omega) List.pairwise_lt_range
theorem rngI_nodup (lo hi : Int) : (rngI lo hi).Nodup := (rngI_sorted lo hi).imp fun h => by omega
theorem rng_eq (n : Nat) : rng n = rngI 0 n := by simp [rng, rngI]
theorem filter_rng_sorted (lo hi : Int) (p : Int → Bool) : ((rngI lo hi).filter p).Pairwise (· ≤ ·) := ((rngI_sorted lo hi).imp fun h => by omega).filter p
/-- a sorted list against a range's part -/
theorem sort_rng {xs : List Int} {n : Nat} {p : Int → Bool} (nd : xs.Nodup) (h : ∀ x, x ∈ xs ↔ (0 ≤ x ∧ x < n) ∧ p x = true) : sortI xs = (rngI 0 n).filter p :=
  sort_is nd ((rngI_nodup 0 n).filter p) (filter_rng_sorted 0 n p) fun x => by rw [h, List.mem_filter, mem_rngI]
/-! fractions -/
theorem common_ok (g : G) (a b : Nat) (hb : b < 100000) : F_common [.int a, .int b] g = .ok (.int (Nat.gcd a b : Nat)) g := by
  unfold F_common b_common
  simp only [pevL, mkFn, gt, st, wipeE, List.length_cons, List.length_nil, List.replicate, List.map_cons, List.map_nil, List.cons_append, List.nil_append, List.append_nil, List.getD_cons_zero, List.getD_cons_succ, Nat.reduceAdd, Nat.reduceSub, Nat.reduceLT, if_true, ite_true, ite_false, reduceIte, Option.map_some]
  obtain ⟨e', g', h1, h2, h3⟩ := whl_inv (c := evE [] (.cmp .ne (.var 1) (.lit (.int 0)))) (f := evS [] (.cons (.par [0, 1] (.cons (.var 1) (.cons (.bin .mod (.var 0) (.var 1)) .nil))) .nil))
    (J := fun m e g' => ∃ x y : Nat, e = [some (.int x), some (.int y)] ∧ g' = g ∧ y = m ∧ Nat.gcd x y = Nat.gcd a b)
    (Post := fun e g' => e = [some (.int (Nat.gcd a b : Nat)), some (.int 0)] ∧ g' = g) (by
      rintro m e g' ⟨x, y, rfl, rfl, rfl, hg⟩
      by_cases hy : y = 0
      · subst hy
        rw [Nat.gcd_zero_right] at hg
        subst hg
        refine .inl ⟨?_, rfl, rfl⟩
        simp only [pevL, mkFn, gt, st, wipeE, List.length_cons, List.length_nil, List.replicate, List.map_cons, List.map_nil, List.cons_append, List.nil_append, List.append_nil, List.getD_cons_zero, List.getD_cons_succ, Nat.reduceAdd, Nat.reduceSub, Nat.reduceLT, if_true, ite_true, ite_false, reduceIte, Option.map_some]
        rfl
      · have hy' : ¬ ((y : Int) = 0) := by omega
        refine .inr ⟨?_, _, _, x % y, .inl ?_, Nat.mod_lt _ (by omega), y, x % y, rfl, rfl, rfl, ?_⟩
        · simp only [pevL, mkFn, gt, st, wipeE, List.length_cons, List.length_nil, List.replicate, List.map_cons, List.map_nil, List.cons_append, List.nil_append, List.append_nil, List.getD_cons_zero, List.getD_cons_succ, Nat.reduceAdd, Nat.reduceSub, Nat.reduceLT, if_true, ite_true, ite_false, reduceIte, Option.map_some, hy']
        · simp only [pevL, mkFn, gt, st, wipeE, List.length_cons, List.length_nil, List.replicate, List.map_cons, List.map_nil, List.cons_append, List.nil_append, List.append_nil, List.getD_cons_zero, List.getD_cons_succ, Nat.reduceAdd, Nat.reduceSub, Nat.reduceLT, if_true, ite_true, ite_false, reduceIte, Option.map_some, bin_mod (x : Int) (y : Int) (by omega)]
          rfl
        · rw [← hg, Nat.gcd_comm x y, Nat.gcd_rec y x, Nat.gcd_comm]) 100000 b [some (.int a), some (.int b)] g hb ⟨a, b, rfl, rfl, rfl, rfl⟩
  rw [h1]
  subst h2 h3
  simp only [pevL, mkFn, gt, st, wipeE, List.length_cons, List.length_nil, List.replicate, List.map_cons, List.map_nil, List.cons_append, List.nil_append, List.append_nil, List.getD_cons_zero, List.getD_cons_succ, Nat.reduceAdd, Nat.reduceSub, Nat.reduceLT, if_true, ite_true, ite_false, reduceIte, Option.map_some]
/-- a fraction in lowest terms -/
def low (a b : Nat) : D := .tup [.int ((a / Nat.gcd a b : Nat) : Int), .int ((b / Nat.gcd a b : Nat) : Int)]
theorem low_eq {a b c d : Nat} (hb : 0 < b) (hd : 0 < d) (h : a * d = c * b) : low a b = low c d := by
  have g1 : 0 < Nat.gcd a b := Nat.gcd_pos_of_pos_right _ hb
  have g2 : 0 < Nat.gcd c d := Nat.gcd_pos_of_pos_right _ hd
  have c1 : Nat.Coprime (a / Nat.gcd a b) (b / Nat.gcd a b) := Nat.coprime_div_gcd_div_gcd g1
  have c2 : Nat.Coprime (c / Nat.gcd c d) (d / Nat.gcd c d) := Nat.coprime_div_gcd_div_gcd g2
  have ea : a / Nat.gcd a b * Nat.gcd a b = a := Nat.div_mul_cancel (Nat.gcd_dvd_left a b)
  have eb : b / Nat.gcd a b * Nat.gcd a b = b := Nat.div_mul_cancel (Nat.gcd_dvd_right a b)
  have ec : c / Nat.gcd c d * Nat.gcd c d = c := Nat.div_mul_cancel (Nat.gcd_dvd_left c d)
  have ed : d / Nat.gcd c d * Nat.gcd c d = d := Nat.div_mul_cancel (Nat.gcd_dvd_right c d)
  unfold low
  generalize a / Nat.gcd a b = a' at *
  generalize b / Nat.gcd a b = b' at *
  generalize c / Nat.gcd c d = c' at *
  generalize d / Nat.gcd c d = d' at *
  generalize Nat.gcd a b = x at *
  generalize Nat.gcd c d = y at *
  subst ea eb ec ed
  have h2 : a' * d' = c' * b' := by
    have h3 : (x * y) * (a' * d') = (x * y) * (c' * b') := by
      calc (x * y) * (a' * d') = a' * x * (d' * y) := by ac_rfl
        _ = c' * y * (b' * x) := h
        _ = (x * y) * (c' * b') := by ac_rfl
    exact Nat.eq_of_mul_eq_mul_left (Nat.mul_pos g1 g2) h3
  have d1 : a' ∣ c' := c1.dvd_of_dvd_mul_right ⟨d', h2.symm⟩
  have d2 : c' ∣ a' := c2.dvd_of_dvd_mul_right ⟨b', h2⟩
  have e1 : a' = c' := Nat.dvd_antisymm d1 d2
  have d3 : b' ∣ d' := c1.symm.dvd_of_dvd_mul_left ⟨c', by rw [h2, Nat.mul_comm]⟩
  have d4 : d' ∣ b' := c2.symm.dvd_of_dvd_mul_left ⟨a', by rw [← h2, Nat.mul_comm]⟩
  have e2 : b' = d' := Nat.dvd_antisymm d3 d4
  rw [e1, e2]
theorem lowest_ok (g : G) (a b : Nat) (h0 : 0 < b) (hb : b < 100000) : F_lowest [.int a, .int b] g = .ok (low a b) g := by
  unfold F_lowest b_lowest
  have g1 : 0 < Nat.gcd a b := Nat.gcd_pos_of_pos_right _ h0
  have g2 : Nat.gcd a b ≤ b := Nat.le_of_dvd h0 (Nat.gcd_dvd_right a b)
  simp only [pevL, mkFn, gt, st, wipeE, List.length_cons, List.length_nil, List.replicate, List.map_cons, List.map_nil, List.cons_append, List.nil_append, List.append_nil, List.getD_cons_zero, List.getD_cons_succ, Nat.reduceAdd, Nat.reduceSub, Nat.reduceLT, if_true, ite_true, ite_false, reduceIte, Option.map_some, common_ok g a b hb, bin_fdiv (a : Int) (Nat.gcd a b : Nat) (by omega), bin_fdiv (b : Int) (Nat.gcd a b : Nat) (by omega)]
  unfold low
  rw [Int.natCast_ediv, Int.natCast_ediv]
theorem low_num (a b : Nat) (hb : 0 < b) : ∃ p q : Nat, low a b = .tup [.int p, .int q] ∧ p * b = a * q ∧ 0 < q ∧ q ∣ b := by
  have g1 : 0 < Nat.gcd a b := Nat.gcd_pos_of_pos_right _ hb
  refine ⟨a / Nat.gcd a b, b / Nat.gcd a b, rfl, ?_, Nat.div_pos (Nat.le_of_dvd hb (Nat.gcd_dvd_right a b)) g1, Nat.div_dvd_of_dvd (Nat.gcd_dvd_right a b)⟩
  have ea : a / Nat.gcd a b * Nat.gcd a b = a := Nat.div_mul_cancel (Nat.gcd_dvd_left a b)
  have eb : b / Nat.gcd a b * Nat.gcd a b = b := Nat.div_mul_cancel (Nat.gcd_dvd_right a b)
  generalize a / Nat.gcd a b = a' at *
  generalize b / Nat.gcd a b = b' at *
  generalize Nat.gcd a b = x at *
  subst ea eb
  ac_rfl
/-- many / (k + 1) is added -/
theorem plus_ok (g : G) (W m k c : Nat) (hk : k * c = 420) (k7 : k ≤ 7) : F_plus [low W 420, low m k] g = .ok (low (W + m * c) 420) g := by
  have kp : 0 < k := by
    rcases Nat.eq_zero_or_pos k with z | z
    · subst z; simp at hk
    · exact z
  obtain ⟨p, q, e1, e2, e3, e4⟩ := low_num W 420 (by decide)
  obtain ⟨r, s, f1, f2, f3, f4⟩ := low_num m k kp
  have hq : q ≤ 420 := Nat.le_of_dvd (by decide) e4
  have hs : s ≤ 7 := Nat.le_trans (Nat.le_of_dvd kp f4) k7
  have hqs : q * s ≤ 420 * 7 := Nat.mul_le_mul hq hs
  have hqp : 0 < q * s := Nat.mul_pos e3 f3
  have main : low (p * s + r * q) (q * s) = low (W + m * c) 420 := by
    refine low_eq hqp (by decide) ?_
    have h1 : p * s * 420 = W * (q * s) := by
      calc p * s * 420 = p * 420 * s := by ac_rfl
        _ = W * q * s := by rw [e2]
        _ = W * (q * s) := by ac_rfl
    have h2 : r * q * 420 = m * c * (q * s) := by
      calc r * q * 420 = r * q * (k * c) := by rw [hk]
        _ = r * k * (q * c) := by ac_rfl
        _ = m * s * (q * c) := by rw [f2]
        _ = m * c * (q * s) := by ac_rfl
    rw [Nat.add_mul, Nat.add_mul, h1, h2]
  have hl := lowest_ok g (p * s + r * q) (q * s) hqp (by omega)
  rw [main] at hl
  rw [e1, f1]
  unfold F_plus b_plus
  have c1 : ((p * s + r * q : Nat) : Int) = (p : Int) * s + (r : Int) * q := by rw [Int.natCast_add, Int.natCast_mul, Int.natCast_mul]
  have c2 : ((q * s : Nat) : Int) = (q : Int) * s := by rw [Int.natCast_mul]
  rw [c1, c2] at hl
  have t0 : ∀ x y : D, subD (.tup [x, y]) 0 = some x := fun x y => at0 x [y]
  have t1 : ∀ x y : D, subD (.tup [x, y]) 1 = some y := fun x y => at1 x y []
  simp only [pevL, mkFn, gt, st, wipeE, List.length_cons, List.length_nil, List.replicate, List.map_cons, List.map_nil, List.cons_append, List.nil_append, List.append_nil, List.getD_cons_zero, List.getD_cons_succ, Nat.reduceAdd, Nat.reduceSub, Nat.reduceLT, if_true, ite_true, ite_false, reduceIte, Option.map_some, t0, t1, bin_mul (p : Int) (s : Int) (.inr (by omega)), bin_mul (r : Int) (q : Int) (.inr (by omega)), bin_mul (q : Int) (s : Int) (.inr (by omega)), hl]
def cnt (one other : List Int) (i : Nat) : Nat := (both one other (i + 1)).length
theorem row_as (one other : List Int) : rowI one other = (List.range one.length).map fun i => ((cnt one other i : Nat) : Int) := by
  unfold rowI rngI
  rw [List.map_map]
  have : (((one.length : Int) + 1) - 1).toNat = one.length := by omega
  rw [this]
  refine List.map_congr_left fun i hi => ?_
  have : (1 + (i : Int)).toNat = i + 1 := by omega
  simp only [Function.comp, this, cnt]
theorem enum_range (n : Nat) (f : Nat → Int) : enumD (ii ((List.range n).map f)) = (List.range n).map fun i : Nat => D.tup [.int (i : Int), .int (f i)] := by
  unfold enumD ii
  apply List.ext_getElem?
  intro i
  simp only [List.getElem?_map, List.getElem?_zipIdx, List.map_map]
  by_cases h : i < n
  · simp [List.getElem?_range h]
  · have : (List.range n)[i]? = none := by simp; omega
    simp [this]
theorem low0 : D.tup [.int 0, .int 1] = low 0 420 := by unfold low; rw [Nat.gcd_zero_left]; rfl
def wsum (one other : List Int) : Nat → Nat
  | 0 => 0
  | j + 1 => wsum one other j + cnt one other j * (420 / (j + 1))
theorem div420 (j : Nat) (h : j < 7) : (j + 1) * (420 / (j + 1)) = 420 := by
  have : j = 0 ∨ j = 1 ∨ j = 2 ∨ j = 3 ∨ j = 4 ∨ j = 5 ∨ j = 6 := by omega
  rcases this with rfl | rfl | rfl | rfl | rfl | rfl | rfl <;> rfl
theorem mean_ok (g : G) {one other : List Int} {n : Nat} (h1 : Full one n) (h2 : Full other n) : F_mean_overlap [il one, il other] g = .ok (low (wsum one other n) (420 * n)) g := by
  have hn := h1.most
  have hp := h1.pos
  unfold F_mean_overlap b_mean_overlap
  simp only [pevL, mkFn, gt, st, wipeE, List.length_cons, List.length_nil, List.replicate, List.map_cons, List.map_nil, List.cons_append, List.nil_append, List.append_nil, List.getD_cons_zero, List.getD_cons_succ, Nat.reduceAdd, Nat.reduceSub, Nat.reduceLT, if_true, ite_true, ite_false, reduceIte, Option.map_some, check_both_ok g h1 h2, row_of_ok g one other (by rw [h1.len]; omega), row_as, enum_range, h1.len, low0]
  obtain ⟨e', g', q1, u, v, q2, q3⟩ := for_inv (f := forF [F_lowest, F_row_of, F_plus, F_check_both] (.tup [3, 4]) (.cons (.asg 2 (.call 2 (.cons (.var 2) (.cons (.call 0 (.cons (.var 4) (.cons (.bin .add (.var 3) (.lit (.int 1))) .nil))) .nil)))) .nil))
    (φ := fun i : Nat => D.tup [.int i, .int ((cnt one other i : Nat) : Int)])
    (J := fun done e g' => ∃ u v, e = [some (il one), some (il other), some (low (wsum one other done.length) 420), u, v] ∧ g' = g)
    (List.range n) [] [some (il one), some (il other), some (low 0 420), none, none] g ⟨none, none, rfl, rfl⟩ (by
      rintro d x rest e g' hd ⟨u, v, rfl, rfl⟩
      rw [List.nil_append] at hd
      have hx : x = d.length := by
        have := congrArg (fun l => l[d.length]?) hd
        simp at this
        have := (List.getElem?_eq_some_iff.mp this).2
        simpa using this.symm
      have hlt : d.length < n := by
        have := congrArg List.length hd
        simp at this; omega
      subst hx
      refine ⟨_, _, .inl ?_, ⟨some (.int (d.length : Nat)), some (.int ((cnt one other d.length : Nat) : Int)), rfl, rfl⟩⟩
      have hl := lowest_ok g' (cnt one other d.length) (d.length + 1) (by omega) (by omega)
      rw [show ((d.length + 1 : Nat) : Int) = (d.length : Int) + 1 from by omega] at hl
      have hpl := plus_ok g' (wsum one other d.length) (cnt one other d.length) (d.length + 1) (420 / (d.length + 1)) (div420 _ (by omega)) (by omega)
      simp only [pevL, mkFn, gt, st, wipeE, List.length_cons, List.length_nil, List.replicate, List.map_cons, List.map_nil, List.cons_append, List.nil_append, List.append_nil, List.getD_cons_zero, List.getD_cons_succ, Nat.reduceAdd, Nat.reduceSub, Nat.reduceLT, if_true, ite_true, ite_false, reduceIte, Option.map_some, s_forF2, hl, hpl, List.length_append]
      rfl)
  rw [q1]
  subst q2 q3
  rw [List.nil_append, List.length_range]
  obtain ⟨p, q, e1, e2, e3, e4⟩ := low_num (wsum one other n) 420 (by decide)
  have hq : q ≤ 420 := Nat.le_of_dvd (by decide) e4
  have hqn : q * n ≤ 420 * 7 := Nat.mul_le_mul hq hn
  have hl := lowest_ok g' p (q * n) (Nat.mul_pos e3 hp) (by omega)
  rw [low_eq (Nat.mul_pos e3 hp) (Nat.mul_pos (by decide : 0 < 420) hp) (by rw [← Nat.mul_assoc, e2]; ac_rfl : p * (420 * n) = wsum one other n * (q * n)), show ((q * n : Nat) : Int) = (q : Int) * n from Int.natCast_mul ..] at hl
  have t0 : ∀ x y : D, subD (.tup [x, y]) 0 = some x := fun x y => at0 x [y]
  have t1 : ∀ x y : D, subD (.tup [x, y]) 1 = some y := fun x y => at1 x y []
  rw [e1]
  simp only [pevL, mkFn, gt, st, wipeE, List.length_cons, List.length_nil, List.replicate, List.map_cons, List.map_nil, List.cons_append, List.nil_append, List.append_nil, List.getD_cons_zero, List.getD_cons_succ, Nat.reduceAdd, Nat.reduceSub, Nat.reduceLT, if_true, ite_true, ite_false, reduceIte, Option.map_some, t0, t1, h1.len, bin_mul (q : Int) (n : Int) (.inr (by omega)), hl]
end Tv.P

set_option linter.all false
set_option maxRecDepth 100000
/-! Plain laws: overlaps. -/
namespace Tv.P
open PySem
section
variable {one other : List Int} {n : Nat}
theorem both_le (k : Nat) : (both one other k).length ≤ one.length := Nat.le_trans (List.length_filter_le _ _) (by rw [List.length_take]; omega)
/-- the comprehension of what is common -/
theorem comp_both (g : G) (T : List Fn) (e : Env) (k : Int) (hk : 0 ≤ k) (i : Nat) (a : Ex) (own : List Nat)
    (H : ∀ y, evC T (.opt (.cmp .isin (.var i) a)) (Tv.st (wipeE e own) i (some (.int y))) g = .ok (decide (y ∈ other.take k.toNat)) g)
    (H2 : ∀ y, gt (Tv.st (wipeE e own) i (some (.int y))) i = some (.int y)) :
    compGo (compF T (.var i) (.one i) (.opt (.cmp .isin (.var i) a)) own e) (ii (one.take k.toNat)) g = .ok (ii (both one other k.toNat)) g := by
  rw [comp_int (fun y => decide (y ∈ other.take k.toNat)) (fun y => y)]
  · rw [List.map_id']; rfl
  · intro y hy
    rw [e_compF1, H y, bind_ok']
    by_cases hz : y ∈ other.take k.toNat
    · rw [decide_eq_true hz, e_elt1, e_var, H2, okR_s, bind_ok', e_some, if_pos rfl]
    · rw [decide_eq_false hz, e_elt0, if_neg (by simp)]
theorem overlap_ok (g : G) (h1 : Full one n) (h2 : Full other n) (k : Int) (h0 : 0 ≤ k) (hk : k ≤ n) : F_overlap [il one, il other, .int k] g = .ok (.int ((both one other k.toNat).length : Nat)) g := by
  have hb : (both one other k.toNat).length ≤ 1000 := Nat.le_trans (both_le _) (by rw [h1.len]; have := h1.most; omega)
  unfold F_overlap b_overlap
  simp only [pevL, mkFn, gt, st, wipeE, List.length_cons, List.length_nil, List.replicate, List.map_cons, List.map_nil, List.cons_append, List.nil_append, List.append_nil, List.getD_cons_zero, List.getD_cons_succ, Nat.reduceAdd, Nat.reduceSub, Nat.reduceLT, if_true, ite_true, ite_false, reduceIte, Option.map_some, check_both_ok g h1 h2, is_int_ok, h1.len, h0, hk, cut_to one k h0]
  rw [comp_both (other := other) g _ _ k h0]
  · simp only [pevL, mkFn, gt, st, wipeE, List.length_cons, List.length_nil, List.replicate, List.map_cons, List.map_nil, List.cons_append, List.nil_append, List.append_nil, List.getD_cons_zero, List.getD_cons_succ, Nat.reduceAdd, Nat.reduceSub, Nat.reduceLT, if_true, ite_true, ite_false, reduceIte, Option.map_some, mkL_ok (show (ii (both one other k.toNat)).length ≤ 1000 by rw [ii_len]; exact hb)]
  · intro y
    simp only [pevL, mkFn, gt, st, wipeE, List.length_cons, List.length_nil, List.replicate, List.map_cons, List.map_nil, List.cons_append, List.nil_append, List.append_nil, List.getD_cons_zero, List.getD_cons_succ, Nat.reduceAdd, Nat.reduceSub, Nat.reduceLT, if_true, ite_true, ite_false, reduceIte, Option.map_some, cut_to other k h0]
  · intro y
    simp only [pevL, mkFn, gt, st, wipeE, List.length_cons, List.length_nil, List.replicate, List.map_cons, List.map_nil, List.cons_append, List.nil_append, List.append_nil, List.getD_cons_zero, List.getD_cons_succ, Nat.reduceAdd, Nat.reduceSub, Nat.reduceLT, if_true, ite_true, ite_false, reduceIte, Option.map_some]
theorem common_things_ok (g : G) (h1 : Full one n) (h2 : Full other n) (k : Int) (h0 : 0 ≤ k) (hk : k ≤ n) : F_common_things [il one, il other, .int k] g = .ok (il (sortI (both one other k.toNat))) g := by
  have hb : (both one other k.toNat).length ≤ 1000 := Nat.le_trans (both_le _) (by rw [h1.len]; have := h1.most; omega)
  unfold F_common_things b_common_things
  simp only [pevL, mkFn, gt, st, wipeE, List.length_cons, List.length_nil, List.replicate, List.map_cons, List.map_nil, List.cons_append, List.nil_append, List.append_nil, List.getD_cons_zero, List.getD_cons_succ, Nat.reduceAdd, Nat.reduceSub, Nat.reduceLT, if_true, ite_true, ite_false, reduceIte, Option.map_some, check_both_ok g h1 h2, is_int_ok, h1.len, h0, hk, cut_to one k h0]
  rw [comp_both (other := other) g _ _ k h0]
  · simp only [pevL, mkFn, gt, st, wipeE, List.length_cons, List.length_nil, List.replicate, List.map_cons, List.map_nil, List.cons_append, List.nil_append, List.append_nil, List.getD_cons_zero, List.getD_cons_succ, Nat.reduceAdd, Nat.reduceSub, Nat.reduceLT, if_true, ite_true, ite_false, reduceIte, Option.map_some, mkL_ok (show (ii (both one other k.toNat)).length ≤ 1000 by rw [ii_len]; exact hb)]
  · intro y
    simp only [pevL, mkFn, gt, st, wipeE, List.length_cons, List.length_nil, List.replicate, List.map_cons, List.map_nil, List.cons_append, List.nil_append, List.append_nil, List.getD_cons_zero, List.getD_cons_succ, Nat.reduceAdd, Nat.reduceSub, Nat.reduceLT, if_true, ite_true, ite_false, reduceIte, Option.map_some, cut_to other k h0]
  · intro y
    simp only [pevL, mkFn, gt, st, wipeE, List.length_cons, List.length_nil, List.replicate, List.map_cons, List.map_nil, List.cons_append, List.nil_append, List.append_nil, List.getD_cons_zero, List.getD_cons_succ, Nat.reduceAdd, Nat.reduceSub, Nat.reduceLT, if_true, ite_true, ite_false, reduceIte, Option.map_some]
theorem overlap_row_ok (g : G) (h1 : Full one n) (h2 : Full other n) : F_overlap_row [il one, il other] g = .ok (il (rowI one other)) g := by
  unfold F_overlap_row b_overlap_row
  simp only [pevL, mkFn, gt, st, wipeE, List.length_cons, List.length_nil, List.replicate, List.map_cons, List.map_nil, List.cons_append, List.nil_append, List.append_nil, List.getD_cons_zero, List.getD_cons_succ, Nat.reduceAdd, Nat.reduceSub, Nat.reduceLT, if_true, ite_true, ite_false, reduceIte, Option.map_some, check_both_ok g h1 h2, row_of_ok g one other (by rw [h1.len]; have := h1.most; omega)]
def alone (one other : List Int) (k : Nat) : List Int := (one.take k).filter fun x => !decide (x ∈ other.take k)
theorem alone_le (k : Nat) : (alone one other k).length ≤ one.length := Nat.le_trans (List.length_filter_le _ _) (by rw [List.length_take]; omega)
theorem waiting_ok (g : G) (h1 : Full one n) (h2 : Full other n) (k : Int) (h0 : 0 ≤ k) (hk : k ≤ n) : F_waiting [il one, il other, .int k] g = .ok (.tup [il (sortI (alone one other k.toNat)), il (sortI (alone other one k.toNat))]) g := by
  have hm := h1.most
  have b1 : (alone one other k.toNat).length ≤ 1000 := Nat.le_trans (alone_le _) (by rw [h1.len]; omega)
  have b2 : (alone other one k.toNat).length ≤ 1000 := Nat.le_trans (alone_le _) (by rw [h2.len]; omega)
  unfold F_waiting b_waiting
  simp only [pevL, mkFn, gt, st, wipeE, List.length_cons, List.length_nil, List.replicate, List.map_cons, List.map_nil, List.cons_append, List.nil_append, List.append_nil, List.getD_cons_zero, List.getD_cons_succ, Nat.reduceAdd, Nat.reduceSub, Nat.reduceLT, if_true, ite_true, ite_false, reduceIte, Option.map_some, check_both_ok g h1 h2, is_int_ok, h1.len, h0, hk, cut_to one k h0, cut_to other k h0]
  rw [comp_int (fun y => !decide (y ∈ other.take k.toNat)) (fun y => y)]
  · rw [List.map_id', show List.filter (fun y => !decide (y ∈ other.take k.toNat)) (one.take k.toNat) = alone one other k.toNat from rfl]
    simp only [pevL, mkFn, gt, st, wipeE, List.length_cons, List.length_nil, List.replicate, List.map_cons, List.map_nil, List.cons_append, List.nil_append, List.append_nil, List.getD_cons_zero, List.getD_cons_succ, Nat.reduceAdd, Nat.reduceSub, Nat.reduceLT, if_true, ite_true, ite_false, reduceIte, Option.map_some, mkL_ok (show (ii (alone one other k.toNat)).length ≤ 1000 by rw [ii_len]; exact b1), cut_to other k h0]
    rw [comp_int (fun y => !decide (y ∈ one.take k.toNat)) (fun y => y)]
    · rw [List.map_id', show List.filter (fun y => !decide (y ∈ one.take k.toNat)) (other.take k.toNat) = alone other one k.toNat from rfl]
      simp only [pevL, mkFn, gt, st, wipeE, List.length_cons, List.length_nil, List.replicate, List.map_cons, List.map_nil, List.cons_append, List.nil_append, List.append_nil, List.getD_cons_zero, List.getD_cons_succ, Nat.reduceAdd, Nat.reduceSub, Nat.reduceLT, if_true, ite_true, ite_false, reduceIte, Option.map_some, mkL_ok (show (ii (alone other one k.toNat)).length ≤ 1000 by rw [ii_len]; exact b2)]
    · intro y hy
      simp only [pevL, mkFn, gt, st, wipeE, List.length_cons, List.length_nil, List.replicate, List.map_cons, List.map_nil, List.cons_append, List.nil_append, List.append_nil, List.getD_cons_zero, List.getD_cons_succ, Nat.reduceAdd, Nat.reduceSub, Nat.reduceLT, if_true, ite_true, ite_false, reduceIte, Option.map_some, e_compF1, cut_to one k h0]
      by_cases hz : y ∈ one.take k.toNat
      · simp only [pevL, mkFn, gt, st, wipeE, List.length_cons, List.length_nil, List.replicate, List.map_cons, List.map_nil, List.cons_append, List.nil_append, List.append_nil, List.getD_cons_zero, List.getD_cons_succ, Nat.reduceAdd, Nat.reduceSub, Nat.reduceLT, if_true, ite_true, ite_false, reduceIte, Option.map_some, hz]
      · simp only [pevL, mkFn, gt, st, wipeE, List.length_cons, List.length_nil, List.replicate, List.map_cons, List.map_nil, List.cons_append, List.nil_append, List.append_nil, List.getD_cons_zero, List.getD_cons_succ, Nat.reduceAdd, Nat.reduceSub, Nat.reduceLT, if_true, ite_true, ite_false, reduceIte, Option.map_some, hz]
  · intro y hy
    simp only [pevL, mkFn, gt, st, wipeE, List.length_cons, List.length_nil, List.replicate, List.map_cons, List.map_nil, List.cons_append, List.nil_append, List.append_nil, List.getD_cons_zero, List.getD_cons_succ, Nat.reduceAdd, Nat.reduceSub, Nat.reduceLT, if_true, ite_true, ite_false, reduceIte, Option.map_some, e_compF1, cut_to other k h0]
    by_cases hz : y ∈ other.take k.toNat
    · simp only [pevL, mkFn, gt, st, wipeE, List.length_cons, List.length_nil, List.replicate, List.map_cons, List.map_nil, List.cons_append, List.nil_append, List.append_nil, List.getD_cons_zero, List.getD_cons_succ, Nat.reduceAdd, Nat.reduceSub, Nat.reduceLT, if_true, ite_true, ite_false, reduceIte, Option.map_some, hz]
    · simp only [pevL, mkFn, gt, st, wipeE, List.length_cons, List.length_nil, List.replicate, List.map_cons, List.map_nil, List.cons_append, List.nil_append, List.append_nil, List.getD_cons_zero, List.getD_cons_succ, Nat.reduceAdd, Nat.reduceSub, Nat.reduceLT, if_true, ite_true, ite_false, reduceIte, Option.map_some, hz]
/-- a thing's place -/
theorem idx_at : ∀ (xs : List Int) (v : Int), v ∈ xs → idxD (ii xs) (.int v) = some (xs.idxOf v)
  | [], v, h => by simp at h
  | x :: xs, v, h => by
    show idxD (.int x :: ii xs) (.int v) = _
    simp only [idxD, eqD_int]
    by_cases hx : x = v
    · subst hx; simp
    · rcases List.mem_cons.mp h with h | h
      · exact absurd h.symm hx
      · rw [idx_at xs v h, List.idxOf_cons]; have hx' : (x == v) = false := by simpa using hx
        simp [hx, hx']
theorem me_index (xs : List Int) (v : Int) (h : v ∈ xs) : meD .index (il xs) (.int v) = some (.int ((xs.idxOf v : Nat) : Int)) := by
  simp only [meD, pln_int, plnL_int, Bool.and_self, if_true, idx_at xs v h, Option.map_some]
theorem meeting_ok (g : G) (h1 : Full one n) (h2 : Full other n) (x : Int) (h0 : 0 ≤ x) (hx : x < n) : F_meeting_depth [il one, il other, .int x] g = .ok (.int (1 + ((max (one.idxOf x) (other.idxOf x) : Nat) : Int))) g := by
  have m1 := h1.mem.mpr ⟨h0, hx⟩
  have m2 := h2.mem.mpr ⟨h0, hx⟩
  have hx2 : x ≤ (n : Int) - 1 := by omega
  unfold F_meeting_depth b_meeting_depth
  simp only [pevL, mkFn, gt, st, wipeE, List.length_cons, List.length_nil, List.replicate, List.map_cons, List.map_nil, List.cons_append, List.nil_append, List.append_nil, List.getD_cons_zero, List.getD_cons_succ, Nat.reduceAdd, Nat.reduceSub, Nat.reduceLT, if_true, ite_true, ite_false, reduceIte, Option.map_some, check_both_ok g h1 h2, is_int_ok, h1.len, h0, hx2, me_index one x m1, me_index other x m2]
  congr 3
  split <;> omega
/-- a list of lists -/
def li (xss : List (List Int)) : List D := xss.map il
theorem li_snoc (xss : List (List Int)) (ys : List Int) : li xss ++ [il ys] = li (xss ++ [ys]) := by simp [li]
theorem li_len (xss : List (List Int)) : (li xss).length = xss.length := List.length_map ..
def fresh (one other : List Int) (k : Nat) : List Int := (one.take k).filter fun y => decide (y ∈ other.take k) && !decide (y ∈ both one other (k - 1))
theorem new_common_ok (g : G) (h1 : Full one n) (h2 : Full other n) : F_new_common [il one, il other] g = .ok (.lst (li ((rngI 1 (n + 1)).map fun k => sortI (fresh one other k.toNat)))) g := by
  have hm := h1.most
  unfold F_new_common b_new_common
  simp only [pevL, mkFn, gt, st, wipeE, List.length_cons, List.length_nil, List.replicate, List.map_cons, List.map_nil, List.cons_append, List.nil_append, List.append_nil, List.getD_cons_zero, List.getD_cons_succ, Nat.reduceAdd, Nat.reduceSub, Nat.reduceLT, if_true, ite_true, ite_false, reduceIte, Option.map_some, check_both_ok g h1 h2, h1.len, rngD_ii 1 (n + 1) (by omega)]
  obtain ⟨e', g', q1, u, v, q2, q3⟩ := for_inv (f := forF [F_check_both] (.one 3) (.cons (.asg 4 (.comp (.var 5) (.one 5) (.iof (.slice (.var 0) .absent (.opt (.bin .sub (.var 3) (.lit (.int 1)))))) (.opt (.cmp .isin (.var 5) (.slice (.var 1) .absent (.opt (.bin .sub (.var 3) (.lit (.int 1))))))) [5])) (.cons (.app 2 (.b1 .sorted (.comp (.var 5) (.one 5) (.iof (.slice (.var 0) .absent (.opt (.var 3)))) (.opt (.ands (.cons (.cmp .isin (.var 5) (.slice (.var 1) .absent (.opt (.var 3)))) (.cons (.cmp .notin (.var 5) (.var 4)) .nil)))) [5]))) .nil))) (φ := D.int)
    (J := fun done e g' => ∃ u v, e = [some (il one), some (il other), some (.lst (li (done.map fun k => sortI (fresh one other k.toNat)))), u, v, none] ∧ g' = g)
    (rngI 1 (n + 1)) [] [some (il one), some (il other), some (il []), none, none, none] g ⟨none, none, rfl, rfl⟩ (by
      rintro d x rest e g' hd ⟨u, v, rfl, rfl⟩
      have hx : x ∈ rngI 1 (n + 1) := by rw [List.nil_append] at hd; rw [hd]; simp
      have hx := mem_rngI.mp hx
      have hdl : d.length ≤ 1000 := by
        have := congrArg List.length hd
        simp [rngI] at this; omega
      have hb : (both one other (x - 1).toNat).length ≤ 1000 := Nat.le_trans (both_le _) (by rw [h1.len]; omega)
      have hf : (fresh one other x.toNat).length ≤ 1000 := Nat.le_trans (List.length_filter_le _ _) (by rw [List.length_take, h1.len]; omega)
      have hx1 : (x - 1).toNat = x.toNat - 1 := by omega
      refine ⟨_, _, .inl ?_, ⟨some (.int x), some (il (both one other (x - 1).toNat)), rfl, rfl⟩⟩
      simp only [pevL, mkFn, gt, st, wipeE, List.length_cons, List.length_nil, List.replicate, List.map_cons, List.map_nil, List.cons_append, List.nil_append, List.append_nil, List.getD_cons_zero, List.getD_cons_succ, Nat.reduceAdd, Nat.reduceSub, Nat.reduceLT, if_true, ite_true, ite_false, reduceIte, Option.map_some, s_forF1, cut_to one x (by omega), cut_to other x (by omega), cut_to one (x - 1) (by omega)]
      rw [comp_both (other := other) g' _ _ (x - 1) (by omega)]
      · simp only [pevL, mkFn, gt, st, wipeE, List.length_cons, List.length_nil, List.replicate, List.map_cons, List.map_nil, List.cons_append, List.nil_append, List.append_nil, List.getD_cons_zero, List.getD_cons_succ, Nat.reduceAdd, Nat.reduceSub, Nat.reduceLT, if_true, ite_true, ite_false, reduceIte, Option.map_some, mkL_ok (show (ii (both one other (x - 1).toNat)).length ≤ 1000 by rw [ii_len]; exact hb), cut_to one x (by omega)]
        rw [comp_int (fun y => decide (y ∈ other.take x.toNat) && !decide (y ∈ both one other (x - 1).toNat)) (fun y => y)]
        · rw [List.map_id', show List.filter (fun y => decide (y ∈ other.take x.toNat) && !decide (y ∈ both one other (x - 1).toNat)) (one.take x.toNat) = fresh one other x.toNat from by rw [hx1]; rfl]
          simp only [pevL, mkFn, gt, st, wipeE, List.length_cons, List.length_nil, List.replicate, List.map_cons, List.map_nil, List.cons_append, List.nil_append, List.append_nil, List.getD_cons_zero, List.getD_cons_succ, Nat.reduceAdd, Nat.reduceSub, Nat.reduceLT, if_true, ite_true, ite_false, reduceIte, Option.map_some, mkL_ok (show (ii (fresh one other x.toNat)).length ≤ 1000 by rw [ii_len]; exact hf), app_ok (show (li (d.map fun k => sortI (fresh one other k.toNat))).length ≤ 1000 by rw [li_len, List.length_map]; exact hdl), li_snoc, List.map_append]
        · intro y hy
          simp only [pevL, mkFn, gt, st, wipeE, List.length_cons, List.length_nil, List.replicate, List.map_cons, List.map_nil, List.cons_append, List.nil_append, List.append_nil, List.getD_cons_zero, List.getD_cons_succ, Nat.reduceAdd, Nat.reduceSub, Nat.reduceLT, if_true, ite_true, ite_false, reduceIte, Option.map_some, e_compF1, cut_to other x (by omega)]
          by_cases hz : y ∈ other.take x.toNat
          · by_cases hw : y ∈ both one other (x - 1).toNat
            · simp only [pevL, mkFn, gt, st, wipeE, List.length_cons, List.length_nil, List.replicate, List.map_cons, List.map_nil, List.cons_append, List.nil_append, List.append_nil, List.getD_cons_zero, List.getD_cons_succ, Nat.reduceAdd, Nat.reduceSub, Nat.reduceLT, if_true, ite_true, ite_false, reduceIte, Option.map_some, hz, hw]
            · simp only [pevL, mkFn, gt, st, wipeE, List.length_cons, List.length_nil, List.replicate, List.map_cons, List.map_nil, List.cons_append, List.nil_append, List.append_nil, List.getD_cons_zero, List.getD_cons_succ, Nat.reduceAdd, Nat.reduceSub, Nat.reduceLT, if_true, ite_true, ite_false, reduceIte, Option.map_some, hz, hw]
          · simp only [pevL, mkFn, gt, st, wipeE, List.length_cons, List.length_nil, List.replicate, List.map_cons, List.map_nil, List.cons_append, List.nil_append, List.append_nil, List.getD_cons_zero, List.getD_cons_succ, Nat.reduceAdd, Nat.reduceSub, Nat.reduceLT, if_true, ite_true, ite_false, reduceIte, Option.map_some, hz]
      · intro y
        simp only [pevL, mkFn, gt, st, wipeE, List.length_cons, List.length_nil, List.replicate, List.map_cons, List.map_nil, List.cons_append, List.nil_append, List.append_nil, List.getD_cons_zero, List.getD_cons_succ, Nat.reduceAdd, Nat.reduceSub, Nat.reduceLT, if_true, ite_true, ite_false, reduceIte, Option.map_some, cut_to other (x - 1) (by omega)]
      · intro y
        simp only [pevL, mkFn, gt, st, wipeE, List.length_cons, List.length_nil, List.replicate, List.map_cons, List.map_nil, List.cons_append, List.nil_append, List.append_nil, List.getD_cons_zero, List.getD_cons_succ, Nat.reduceAdd, Nat.reduceSub, Nat.reduceLT, if_true, ite_true, ite_false, reduceIte, Option.map_some])
  rw [show ii (rngI 1 (n + 1)) = (rngI 1 (n + 1)).map .int from rfl, q1]
  subst q2 q3
  simp only [pevL, mkFn, gt, st, wipeE, List.length_cons, List.length_nil, List.replicate, List.map_cons, List.map_nil, List.cons_append, List.nil_append, List.append_nil, List.getD_cons_zero, List.getD_cons_succ, Nat.reduceAdd, Nat.reduceSub, Nat.reduceLT, if_true, ite_true, ite_false, reduceIte, Option.map_some]
end
end Tv.P

set_option linter.all false
set_option maxRecDepth 100000
/-! Plain laws: rows. -/
namespace Tv.P
open PySem
section
variable {one other : List Int} {n : Nat}
theorem filter_one : ∀ (xs : List Int) (p : Int → Bool) (b : Int), xs.Nodup → (xs.filter p).length ≤ (xs.filter fun x => p x || decide (x = b)).length ∧ (xs.filter fun x => p x || decide (x = b)).length ≤ (xs.filter p).length + 1
  | [], _, _, _ => by simp
  | x :: xs, p, b, nd => by
    obtain ⟨n1, n2⟩ := List.nodup_cons.mp nd
    obtain ⟨h1, h2⟩ := filter_one xs p b n2
    by_cases hx : x = b
    · subst hx
      have e : xs.filter (fun y => p y || decide (y = x)) = xs.filter p := List.filter_congr fun y hy => by
        have : y ≠ x := fun z => n1 (z ▸ hy)
        simp [this]
      cases hp : p x <;> simp [List.filter_cons, hp, e]
    · cases hp : p x <;> simp [List.filter_cons, hp, hx] <;> omega
theorem take_snoc {xs : List Int} {k : Nat} (h : k < xs.length) : xs.take (k + 1) = xs.take k ++ [xs[k]] := by
  rw [List.take_succ, List.getElem?_eq_getElem h]; rfl
theorem both_step (h1 : Full one n) (h2 : Full other n) (k : Nat) (hk : k < n) : (both one other k).length ≤ (both one other (k + 1)).length ∧ (both one other (k + 1)).length ≤ (both one other k).length + 2 := by
  have l1 : k < one.length := by rw [h1.len]; exact hk
  have l2 : k < other.length := by rw [h2.len]; exact hk
  have nd : (one.take k).Nodup := h1.nodup.sublist (List.take_sublist _ _)
  have f := filter_one (one.take k) (fun x => decide (x ∈ other.take k)) other[k] nd
  have e : (one.take k).filter (fun x => decide (x ∈ other.take (k + 1))) = (one.take k).filter (fun x => decide (x ∈ other.take k) || decide (x = other[k])) := by
    refine List.filter_congr fun x _ => ?_
    have mem : x ∈ other.take (k + 1) ↔ x ∈ other.take k ∨ x = other[k] := by rw [take_snoc l2, List.mem_append, List.mem_singleton]
    rw [← Bool.decide_or]
    exact decide_eq_decide.mpr mem
  unfold both
  rw [take_snoc l1, List.filter_append, List.length_append, e]
  have : ([one[k]].filter fun x => decide (x ∈ other.take (k + 1))).length ≤ 1 := List.length_filter_le _ _
  omega
theorem both_top (k : Nat) : (both one other k).length ≤ k := Nat.le_trans (List.length_filter_le _ _) (by rw [List.length_take]; omega)
theorem both_all (h1 : Full one n) (h2 : Full other n) : (both one other n).length = n := by
  unfold both
  rw [List.take_of_length_le (Nat.le_of_eq h2.len), List.take_of_length_le (Nat.le_of_eq h1.len), List.filter_eq_self.mpr, h1.len]
  intro x hx
  simp [h2.mem.mpr (h1.mem.mp hx)]
theorem is_row_ok (g : G) (h1 : Full one n) (h2 : Full other n) : F_is_row [il (rowI one other)] g = .ok (.bl true) g := by
  have hm := h1.most
  have hp := h1.pos
  have hl : (rowI one other).length = n := by rw [row_as, List.length_map, List.length_range, h1.len]
  have g1 : (1 : Int) ≤ (n : Int) := by omega
  have g7 : (n : Int) ≤ 7 := by omega
  unfold F_is_row b_is_row
  simp only [pevL, mkFn, gt, st, wipeE, List.length_cons, List.length_nil, List.replicate, List.map_cons, List.map_nil, List.cons_append, List.nil_append, List.append_nil, List.getD_cons_zero, List.getD_cons_succ, Nat.reduceAdd, Nat.reduceSub, Nat.reduceLT, if_true, ite_true, ite_false, reduceIte, Option.map_some, hl, g1, g7]
  rw [show compGo _ (ii (rowI one other)) g = compGo _ ((rowI one other).map .int) g from rfl, comp_all (h := fun _ => .bl true)]
  · have e : b1D .all (.lst ((rowI one other).map fun _ => D.bl true)) = some (.bl true) := by
      have := all_bl ((rowI one other).map fun _ => true)
      rw [List.map_map] at this
      rw [show ((rowI one other).map fun _ => D.bl true) = (rowI one other).map (D.bl ∘ fun _ => true) from rfl, this]
      simp
    simp only [pevL, mkFn, gt, st, wipeE, List.length_cons, List.length_nil, List.replicate, List.map_cons, List.map_nil, List.cons_append, List.nil_append, List.append_nil, List.getD_cons_zero, List.getD_cons_succ, Nat.reduceAdd, Nat.reduceSub, Nat.reduceLT, if_true, ite_true, ite_false, reduceIte, Option.map_some, mkL_ok (show ((rowI one other).map fun _ => D.bl true).length ≤ 1000 by rw [List.length_map, hl]; omega), e]
    simp only [pevL, mkFn, gt, st, wipeE, List.length_cons, List.length_nil, List.replicate, List.map_cons, List.map_nil, List.cons_append, List.nil_append, List.append_nil, List.getD_cons_zero, List.getD_cons_succ, Nat.reduceAdd, Nat.reduceSub, Nat.reduceLT, if_true, ite_true, ite_false, reduceIte, Option.map_some, row_as, enum_range, h1.len]
    obtain ⟨e', g', q1, u, v, q2, q3⟩ := for_inv (f := forF [F_is_int] (.tup [3, 1]) (.cons (.ife (.ors (.cons (.not (.chain .le .le (.var 2) (.var 1) (.bin .add (.var 2) (.lit (.int 2))))) (.cons (.cmp .gt (.var 1) (.bin .add (.var 3) (.lit (.int 1)))) .nil))) (.cons (.ret (.lit (.bl false))) .nil) .nil) (.cons (.asg 2 (.var 1)) .nil)))
      (φ := fun i : Nat => D.tup [.int i, .int ((cnt one other i : Nat) : Int)])
      (J := fun done e g' => ∃ u v, e = [some (il ((List.range n).map fun i => ((cnt one other i : Nat) : Int))), u, some (.int ((both one other done.length).length : Nat)), v] ∧ g' = g)
      (List.range n) [] [some (il ((List.range n).map fun i => ((cnt one other i : Nat) : Int))), none, some (.int 0), none] g ⟨none, none, by simp [both], rfl⟩ (by
        rintro d x rest e g' hd ⟨u, v, rfl, rfl⟩
        rw [List.nil_append] at hd
        have hx : x = d.length := by
          have := congrArg (fun l => l[d.length]?) hd
          simp at this
          have := (List.getElem?_eq_some_iff.mp this).2
          simpa using this.symm
        have hlt : d.length < n := by
          have := congrArg List.length hd
          simp at this; omega
        subst hx
        obtain ⟨s1, s2⟩ := both_step h1 h2 d.length hlt
        have s3 := both_top (one := one) (other := other) (d.length + 1)
        refine ⟨_, _, .inl ?_, ⟨some (.int ((cnt one other d.length : Nat) : Int)), some (.int (d.length : Nat)), rfl, rfl⟩⟩
        have c1 : (((both one other d.length).length : Nat) : Int) ≤ ((cnt one other d.length : Nat) : Int) := by unfold cnt; omega
        have c2 : ((cnt one other d.length : Nat) : Int) ≤ (((both one other d.length).length : Nat) : Int) + 2 := by unfold cnt; omega
        have c3 : ¬ ((d.length : Int) + 1 < ((cnt one other d.length : Nat) : Int)) := by unfold cnt; omega
        simp only [pevL, mkFn, gt, st, wipeE, List.length_cons, List.length_nil, List.replicate, List.map_cons, List.map_nil, List.cons_append, List.nil_append, List.append_nil, List.getD_cons_zero, List.getD_cons_succ, Nat.reduceAdd, Nat.reduceSub, Nat.reduceLT, if_true, ite_true, ite_false, reduceIte, Option.map_some, s_forF2, c1, c2, c3, List.length_append]
        rfl)
    rw [q1]
    subst q2 q3
    rw [List.nil_append, List.length_range, both_all h1 h2]
    simp only [pevL, mkFn, gt, st, wipeE, List.length_cons, List.length_nil, List.replicate, List.map_cons, List.map_nil, List.cons_append, List.nil_append, List.append_nil, List.getD_cons_zero, List.getD_cons_succ, Nat.reduceAdd, Nat.reduceSub, Nat.reduceLT, if_true, ite_true, ite_false, reduceIte, Option.map_some, List.length_map, List.length_range]
  · intro x hx
    rw [row_as] at hx
    obtain ⟨i, hi, rfl⟩ := List.mem_map.mp hx
    rw [List.mem_range, h1.len] at hi
    have s3 := both_top (one := one) (other := other) (i + 1)
    have e1 : (0 : Int) ≤ ((cnt one other i : Nat) : Int) := by omega
    have e2 : ((cnt one other i : Nat) : Int) ≤ 7 := by unfold cnt; omega
    simp only [pevL, mkFn, gt, st, wipeE, List.length_cons, List.length_nil, List.replicate, List.map_cons, List.map_nil, List.cons_append, List.nil_append, List.append_nil, List.getD_cons_zero, List.getD_cons_succ, Nat.reduceAdd, Nat.reduceSub, Nat.reduceLT, if_true, ite_true, ite_false, reduceIte, Option.map_some, e_compF1, is_int_ok, e1, e2]
end
end Tv.P

set_option linter.all false
set_option maxRecDepth 100000
/-! Plain laws: k01's own helpers. -/
namespace Tv.P
open PySem
section
variable {one other : List Int} {n : Nat}
theorem law_row_ok (g : G) (hl : one.length ≤ 1000) : F__law_row [il one, il other] g = .ok (il (rowI one other)) g := by
  unfold F__law_row b__law_row
  simp only [pevL, mkFn, gt, st, wipeE, List.length_cons, List.length_nil, List.replicate, List.map_cons, List.map_nil, List.cons_append, List.nil_append, List.append_nil, List.getD_cons_zero, List.getD_cons_succ, Nat.reduceAdd, Nat.reduceSub, Nat.reduceLT, if_true, ite_true, ite_false, reduceIte, Option.map_some, rngD_ii 0 one.length (by omega)]
  rw [comp_int (fun _ => true) (fun x => ((both one other (x + 1).toNat).length : Int))]
  · have e : ((rngI 0 one.length).filter fun _ => true).map (fun x => ((both one other (x + 1).toNat).length : Int)) = rowI one other := by
      rw [row_as, List.filter_eq_self.mpr (fun _ _ => rfl)]
      unfold rngI
      rw [List.map_map, show ((one.length : Int) - 0).toNat = one.length by omega]
      refine List.map_congr_left fun i hi => ?_
      have : ((0 : Int) + (i : Int) + 1).toNat = i + 1 := by omega
      simp only [Function.comp, this, cnt]
    rw [e]
    have hl2 : (ii (rowI one other)).length ≤ 1000 := by rw [ii_len, row_as, List.length_map, List.length_range]; exact hl
    simp only [pevL, mkFn, gt, st, wipeE, List.length_cons, List.length_nil, List.replicate, List.map_cons, List.map_nil, List.cons_append, List.nil_append, List.append_nil, List.getD_cons_zero, List.getD_cons_succ, Nat.reduceAdd, Nat.reduceSub, Nat.reduceLT, if_true, ite_true, ite_false, reduceIte, Option.map_some, mkL_ok hl2]
  · intro x hx
    have hx := mem_rngI.mp hx
    have hb : (both one other (x + 1).toNat).length ≤ 1000 := Nat.le_trans (both_le _) hl
    simp only [pevL, mkFn, gt, st, wipeE, List.length_cons, List.length_nil, List.replicate, List.map_cons, List.map_nil, List.cons_append, List.nil_append, List.append_nil, List.getD_cons_zero, List.getD_cons_succ, Nat.reduceAdd, Nat.reduceSub, Nat.reduceLT, if_true, ite_true, ite_false, reduceIte, Option.map_some, e_compF1, cut_to one (x + 1) (by omega)]
    rw [comp_both (other := other) g _ _ (x + 1) (by omega)]
    · simp only [pevL, mkFn, gt, st, wipeE, List.length_cons, List.length_nil, List.replicate, List.map_cons, List.map_nil, List.cons_append, List.nil_append, List.append_nil, List.getD_cons_zero, List.getD_cons_succ, Nat.reduceAdd, Nat.reduceSub, Nat.reduceLT, if_true, ite_true, ite_false, reduceIte, Option.map_some, mkL_ok (show (ii (both one other (x + 1).toNat)).length ≤ 1000 by rw [ii_len]; exact hb)]
    · intro y
      simp only [pevL, mkFn, gt, st, wipeE, List.length_cons, List.length_nil, List.replicate, List.map_cons, List.map_nil, List.cons_append, List.nil_append, List.append_nil, List.getD_cons_zero, List.getD_cons_succ, Nat.reduceAdd, Nat.reduceSub, Nat.reduceLT, if_true, ite_true, ite_false, reduceIte, Option.map_some, cut_to other (x + 1) (by omega)]
    · intro y
      simp only [pevL, mkFn, gt, st, wipeE, List.length_cons, List.length_nil, List.replicate, List.map_cons, List.map_nil, List.cons_append, List.nil_append, List.append_nil, List.getD_cons_zero, List.getD_cons_succ, Nat.reduceAdd, Nat.reduceSub, Nat.reduceLT, if_true, ite_true, ite_false, reduceIte, Option.map_some]
theorem law_low_ok (g : G) (a b : Nat) (h0 : 0 < b) (hb : b < 100000) : F__law_low [.int a, .int b] g = .ok (low a b) g := by
  unfold F__law_low b__law_low
  have g1 : 0 < Nat.gcd a b := Nat.gcd_pos_of_pos_right _ h0
  have g2 : Nat.gcd a b ≤ b := Nat.le_of_dvd h0 (Nat.gcd_dvd_right a b)
  have ha : ¬ ((a : Int) < 0) := by omega
  simp only [pevL, mkFn, gt, st, wipeE, List.length_cons, List.length_nil, List.replicate, List.map_cons, List.map_nil, List.cons_append, List.nil_append, List.append_nil, List.getD_cons_zero, List.getD_cons_succ, Nat.reduceAdd, Nat.reduceSub, Nat.reduceLT, if_true, ite_true, ite_false, reduceIte, Option.map_some, ha]
  obtain ⟨e', g', h1, h2, h3⟩ := whl_inv (c := evE [] (.cmp .ne (.var 3) (.lit (.int 0)))) (f := evS [] (.cons (.par [2, 3] (.cons (.var 3) (.cons (.bin .mod (.var 2) (.var 3)) .nil))) .nil))
    (J := fun m e g' => ∃ x y : Nat, e = [some (.int a), some (.int b), some (.int x), some (.int y)] ∧ g' = g ∧ y = m ∧ Nat.gcd x y = Nat.gcd a b)
    (Post := fun e g' => e = [some (.int a), some (.int b), some (.int (Nat.gcd a b : Nat)), some (.int 0)] ∧ g' = g) (by
      rintro m e g' ⟨x, y, rfl, rfl, rfl, hg⟩
      by_cases hy : y = 0
      · subst hy
        rw [Nat.gcd_zero_right] at hg
        subst hg
        refine .inl ⟨?_, rfl, rfl⟩
        simp only [pevL, mkFn, gt, st, wipeE, List.length_cons, List.length_nil, List.replicate, List.map_cons, List.map_nil, List.cons_append, List.nil_append, List.append_nil, List.getD_cons_zero, List.getD_cons_succ, Nat.reduceAdd, Nat.reduceSub, Nat.reduceLT, if_true, ite_true, ite_false, reduceIte, Option.map_some]
        rfl
      · have hy' : ¬ ((y : Int) = 0) := by omega
        refine .inr ⟨?_, _, _, x % y, .inl ?_, Nat.mod_lt _ (by omega), y, x % y, rfl, rfl, rfl, ?_⟩
        · simp only [pevL, mkFn, gt, st, wipeE, List.length_cons, List.length_nil, List.replicate, List.map_cons, List.map_nil, List.cons_append, List.nil_append, List.append_nil, List.getD_cons_zero, List.getD_cons_succ, Nat.reduceAdd, Nat.reduceSub, Nat.reduceLT, if_true, ite_true, ite_false, reduceIte, Option.map_some, hy']
        · simp only [pevL, mkFn, gt, st, wipeE, List.length_cons, List.length_nil, List.replicate, List.map_cons, List.map_nil, List.cons_append, List.nil_append, List.append_nil, List.getD_cons_zero, List.getD_cons_succ, Nat.reduceAdd, Nat.reduceSub, Nat.reduceLT, if_true, ite_true, ite_false, reduceIte, Option.map_some, bin_mod (x : Int) (y : Int) (by omega)]
          rfl
        · rw [← hg, Nat.gcd_comm x y, Nat.gcd_rec y x, Nat.gcd_comm]) 100000 b [some (.int a), some (.int b), some (.int a), some (.int b)] g hb ⟨a, b, rfl, rfl, rfl, rfl⟩
  rw [h1]
  subst h2 h3
  simp only [pevL, mkFn, gt, st, wipeE, List.length_cons, List.length_nil, List.replicate, List.map_cons, List.map_nil, List.cons_append, List.nil_append, List.append_nil, List.getD_cons_zero, List.getD_cons_succ, Nat.reduceAdd, Nat.reduceSub, Nat.reduceLT, if_true, ite_true, ite_false, reduceIte, Option.map_some, bin_fdiv (a : Int) (Nat.gcd a b : Nat) (by omega), bin_fdiv (b : Int) (Nat.gcd a b : Nat) (by omega)]
  unfold low
  rw [Int.natCast_ediv, Int.natCast_ediv]
end
end Tv.P

set_option linter.all false
set_option maxRecDepth 100000
/-! Plain laws: more words; lists changed. -/
namespace Tv.P
open PySem
section
variable {T : List Fn} {e : Env} {g : G}
theorem ite_okr {α : Type} (c : Prop) [Decidable c] (a b : α) : (if c then Res.ok a g else Res.ok b g) = .ok (if c then a else b) g := by by_cases h : c <;> simp [h]
theorem ite_bl (c : Prop) [Decidable c] (a b : Bool) : (if c then D.bl a else D.bl b) = .bl (if c then a else b) := by by_cases h : c <;> simp [h]
theorem ite_int (c : Prop) [Decidable c] (a b : Int) : (if c then D.int a else D.int b) = .int (if c then a else b) := by by_cases h : c <;> simp [h]
theorem ite_and (b c : Bool) : (if b = true then c else false) = (b && c) := by cases b <;> rfl
theorem ite_or (b c : Bool) : (if b = true then true else c) = (b || c) := by cases b <;> rfl
theorem elt_ite (elt : Ex) (b : Bool) : kElt T elt e b g = if b = true then (evE T elt e g).bind kSome else .ok none g := by cases b <;> rfl
theorem kif_ite (a b : Ex) (c : Bool) : kIf T a b e (.bl c) g = if c = true then evE T a e g else evE T b e g := by cases c <;> rfl
end
theorem subD0 (x : D) (r : List D) : subD (.tup (x :: r)) 0 = some x := at0 x r
theorem subD1 (x y : D) (r : List D) : subD (.tup (x :: y :: r)) 1 = some y := at1 x y r
theorem pvL : type_of% (And.intro @bind_ok' (And.intro @out_ok (And.intro @seq_nx (And.intro @seq_ret (And.intro @seq_cnt (And.intro @seq_brk (And.intro @okR_s (And.intro @okB_s (And.intro @okO_s (And.intro @dr_int (And.intro @dr_bl (And.intro @dr_str (And.intro @dr_lst (And.intro @dr_tup (And.intro @il_nil (And.intro @ii_len (And.intro @ii_app (And.intro @ii_snoc (And.intro @e_var (And.intro @e_bvar (And.intro @e_lit (And.intro @e_gcon (And.intro @e_bin (And.intro @e_bin1 (And.intro @e_bin2 (And.intro @e_neg (And.intro @e_neg1 (And.intro @e_not (And.intro @e_not1 (And.intro @e_ands (And.intro @e_ors (And.intro @e_cmp (And.intro @e_cmp1 (And.intro @e_cmp2 (And.intro @e_chain (And.intro @e_ch1 (And.intro @e_isn (And.intro @e_nisn (And.intro @e_ife (And.intro @kif_ite (And.intro @e_list (And.intro @e_list1 (And.intro @e_tuple (And.intro @e_tup1 (And.intro @e_sub (And.intro @e_sub1 (And.intro @e_sub2 (And.intro @e_slice (And.intro @e_sl1 (And.intro @e_sl2 (And.intro @e_sl3 (And.intro @e_rev (And.intro @e_rev1 (And.intro @e_comp (And.intro @e_comp1 (And.intro @e_compF1 (And.intro @e_compF2 (And.intro @elt_ite (And.intro @e_some (And.intro @e_call (And.intro @e_call1 (And.intro @e_callb (And.intro @e_callb1 (And.intro @e_scali (And.intro @e_scalb (And.intro @e_scals (And.intro @e_scaln (And.intro @e_b1 (And.intro @e_b11 (And.intro @e_b2 (And.intro @e_b21 (And.intro @e_b22 (And.intro @e_lrng (And.intro @e_lrng1 (And.intro @e_lst (And.intro @e_isI (And.intro @e_is1 (And.intro @e_meth (And.intro @e_meI (And.intro @e_me2 (And.intro @e_nil (And.intro @e_cons (And.intro @e_es (And.intro @e_es2 (And.intro @e_and0 (And.intro @e_and (And.intro @e_and1 (And.intro @e_or0 (And.intro @e_or (And.intro @e_or1 (And.intro @e_oa (And.intro @e_oo (And.intro @e_o1 (And.intro @e_ca (And.intro @e_co (And.intro @e_c1 (And.intro @e_iof (And.intro @e_iof1 (And.intro @e_itup (And.intro @e_itup1 (And.intro @e_istr (And.intro @e_istr1 (And.intro @e_irng1 (And.intro @e_r1 (And.intro @e_irng2 (And.intro @e_r2 (And.intro @e_r22 (And.intro @e_ienum (And.intro @e_en1 (And.intro @e_izip (And.intro @e_z (And.intro @e_z2 (And.intro @s_nil' (And.intro @s_cons' (And.intro @s_pass' (And.intro @s_brk' (And.intro @s_cnt' (And.intro @s_retn' (And.intro @s_ret' (And.intro @s_ret1 (And.intro @s_retm' (And.intro @s_retm1 (And.intro @s_asg' (And.intro @s_asg1 (And.intro @s_asgm' (And.intro @s_asgm1 (And.intro @s_mov' (And.intro @s_mov1 (And.intro @s_unp' (And.intro @s_unp2 (And.intro @s_unp3 (And.intro @s_par' (And.intro @s_par2 (And.intro @s_par3 (And.intro @s_aug' (And.intro @s_aug0 (And.intro @s_augA (And.intro @s_augS (And.intro @s_seti' (And.intro @s_st0 (And.intro @s_st1 (And.intro @s_setc' (And.intro @s_sc1 (And.intro @s_sc2 (And.intro @s_app' (And.intro @s_app0 (And.intro @s_rmv' (And.intro @s_rmv0 (And.intro @s_ife' (And.intro @s_if1 (And.intro @s_whl' (And.intro @s_for' (And.intro @s_for1 (And.intro @s_forF1 (And.intro @s_forF2 (And.intro @s_exp' (And.intro @s_exp1 (And.intro @e_ch_le (And.intro @bin_add (And.intro @bin_sub (And.intro @cmp_eq_int (And.intro @cmp_ne_int (And.intro @cmp_lt (And.intro @cmp_gt (And.intro @cmp_le (And.intro @cmp_ge (And.intro @cmp_eq_il (And.intro @cmp_ne_il (And.intro @cmp_in (And.intro @cmp_notin (And.intro @cmp_is (And.intro @cmp_nis (And.intro @len_il (And.intro @sorted_il (And.intro @sum_il (And.intro @abs_int (And.intro @all_bl (And.intro @any_bl (And.intro @max2 (And.intro @min2 (And.intro @isint_int (And.intro @isbool_int (And.intro @islist_il (And.intro @cut_il (And.intro @ite_okr (And.intro @ite_bl (And.intro @ite_int (And.intro @ite_and (And.intro @ite_or (And.intro @subD0 (And.intro @subD1 (And.intro @decide_eq_true_eq (And.intro @Bool.and_true (And.intro @Bool.and_false (And.intro @Bool.true_and (And.intro @Bool.false_and (And.intro @Bool.and_self (And.intro @Bool.or_false (And.intro @Bool.or_true (And.intro @Bool.false_or (And.intro @Bool.true_or (And.intro @Bool.not_true (And.intro @Bool.not_false (And.intro @decide_true (And.intro @decide_false (And.intro @Nat.zero_add (And.intro @Bool.false_eq_true (@nox_ok)))))))))))))))))))))))))))))))))))))))))))))))))))))))))))))))))))))))))))))))))))))))))))))))))))))))))))))))))))))))))))))))))))))))))))))))))))))))))))))))))))))))))))))))))))))))))))))))))))))))))))))))) := And.intro @bind_ok' (And.intro @out_ok (And.intro @seq_nx (And.intro @seq_ret (And.intro @seq_cnt (And.intro @seq_brk (And.intro @okR_s (And.intro @okB_s (And.intro @okO_s (And.intro @dr_int (And.intro @dr_bl (And.intro @dr_str (And.intro @dr_lst (And.intro @dr_tup (And.intro @il_nil (And.intro @ii_len (And.intro @ii_app (And.intro @ii_snoc (And.intro @e_var (And.intro @e_bvar (And.intro @e_lit (And.intro @e_gcon (And.intro @e_bin (And.intro @e_bin1 (And.intro @e_bin2 (And.intro @e_neg (And.intro @e_neg1 (And.intro @e_not (And.intro @e_not1 (And.intro @e_ands (And.intro @e_ors (And.intro @e_cmp (And.intro @e_cmp1 (And.intro @e_cmp2 (And.intro @e_chain (And.intro @e_ch1 (And.intro @e_isn (And.intro @e_nisn (And.intro @e_ife (And.intro @kif_ite (And.intro @e_list (And.intro @e_list1 (And.intro @e_tuple (And.intro @e_tup1 (And.intro @e_sub (And.intro @e_sub1 (And.intro @e_sub2 (And.intro @e_slice (And.intro @e_sl1 (And.intro @e_sl2 (And.intro @e_sl3 (And.intro @e_rev (And.intro @e_rev1 (And.intro @e_comp (And.intro @e_comp1 (And.intro @e_compF1 (And.intro @e_compF2 (And.intro @elt_ite (And.intro @e_some (And.intro @e_call (And.intro @e_call1 (And.intro @e_callb (And.intro @e_callb1 (And.intro @e_scali (And.intro @e_scalb (And.intro @e_scals (And.intro @e_scaln (And.intro @e_b1 (And.intro @e_b11 (And.intro @e_b2 (And.intro @e_b21 (And.intro @e_b22 (And.intro @e_lrng (And.intro @e_lrng1 (And.intro @e_lst (And.intro @e_isI (And.intro @e_is1 (And.intro @e_meth (And.intro @e_meI (And.intro @e_me2 (And.intro @e_nil (And.intro @e_cons (And.intro @e_es (And.intro @e_es2 (And.intro @e_and0 (And.intro @e_and (And.intro @e_and1 (And.intro @e_or0 (And.intro @e_or (And.intro @e_or1 (And.intro @e_oa (And.intro @e_oo (And.intro @e_o1 (And.intro @e_ca (And.intro @e_co (And.intro @e_c1 (And.intro @e_iof (And.intro @e_iof1 (And.intro @e_itup (And.intro @e_itup1 (And.intro @e_istr (And.intro @e_istr1 (And.intro @e_irng1 (And.intro @e_r1 (And.intro @e_irng2 (And.intro @e_r2 (And.intro @e_r22 (And.intro @e_ienum (And.intro @e_en1 (And.intro @e_izip (And.intro @e_z (And.intro @e_z2 (And.intro @s_nil' (And.intro @s_cons' (And.intro @s_pass' (And.intro @s_brk' (And.intro @s_cnt' (And.intro @s_retn' (And.intro @s_ret' (And.intro @s_ret1 (And.intro @s_retm' (And.intro @s_retm1 (And.intro @s_asg' (And.intro @s_asg1 (And.intro @s_asgm' (And.intro @s_asgm1 (And.intro @s_mov' (And.intro @s_mov1 (And.intro @s_unp' (And.intro @s_unp2 (And.intro @s_unp3 (And.intro @s_par' (And.intro @s_par2 (And.intro @s_par3 (And.intro @s_aug' (And.intro @s_aug0 (And.intro @s_augA (And.intro @s_augS (And.intro @s_seti' (And.intro @s_st0 (And.intro @s_st1 (And.intro @s_setc' (And.intro @s_sc1 (And.intro @s_sc2 (And.intro @s_app' (And.intro @s_app0 (And.intro @s_rmv' (And.intro @s_rmv0 (And.intro @s_ife' (And.intro @s_if1 (And.intro @s_whl' (And.intro @s_for' (And.intro @s_for1 (And.intro @s_forF1 (And.intro @s_forF2 (And.intro @s_exp' (And.intro @s_exp1 (And.intro @e_ch_le (And.intro @bin_add (And.intro @bin_sub (And.intro @cmp_eq_int (And.intro @cmp_ne_int (And.intro @cmp_lt (And.intro @cmp_gt (And.intro @cmp_le (And.intro @cmp_ge (And.intro @cmp_eq_il (And.intro @cmp_ne_il (And.intro @cmp_in (And.intro @cmp_notin (And.intro @cmp_is (And.intro @cmp_nis (And.intro @len_il (And.intro @sorted_il (And.intro @sum_il (And.intro @abs_int (And.intro @all_bl (And.intro @any_bl (And.intro @max2 (And.intro @min2 (And.intro @isint_int (And.intro @isbool_int (And.intro @islist_il (And.intro @cut_il (And.intro @ite_okr (And.intro @ite_bl (And.intro @ite_int (And.intro @ite_and (And.intro @ite_or (And.intro @subD0 (And.intro @subD1 (And.intro @decide_eq_true_eq (And.intro @Bool.and_true (And.intro @Bool.and_false (And.intro @Bool.true_and (And.intro @Bool.false_and (And.intro @Bool.and_self (And.intro @Bool.or_false (And.intro @Bool.or_true (And.intro @Bool.false_or (And.intro @Bool.true_or (And.intro @Bool.not_true (And.intro @Bool.not_false (And.intro @decide_true (And.intro @decide_false (And.intro @Nat.zero_add (And.intro @Bool.false_eq_true (@nox_ok)))))))))))))))))))))))))))))))))))))))))))))))))))))))))))))))))))))))))))))))))))))))))))))))))))))))))))))))))))))))))))))))))))))))))))))))))))))))))))))))))))))))))))))))))))))))))))))))))))))))))))))))
section
variable {f : D → G → Res (Option D)} {g : G} {xs : List Int}
theorem mkl_ii {xs : List Int} (h : xs.length ≤ 1000) : mkL (ii xs) g = .ok (il xs) g := mkL_ok (by rw [ii_len]; exact h)
/-- comprehensions over whole numbers, to whole numbers -/
theorem c_flt (p : Int → Bool) (hl : xs.length ≤ 1000) (H : ∀ x ∈ xs, f (.int x) g = .ok (if p x = true then some (.int x) else none) g) : (nox (compGo f (ii xs) g)).bind mkL = .ok (il (xs.filter p)) g := by
  rw [comp_int p (fun x => x) xs H, List.map_id', nox_ok, bind_ok', mkl_ii (Nat.le_trans (List.length_filter_le _ _) hl)]
theorem c_fm (p : Int → Bool) (h : Int → Int) (hl : xs.length ≤ 1000) (H : ∀ x ∈ xs, f (.int x) g = .ok (if p x = true then some (.int (h x)) else none) g) : (nox (compGo f (ii xs) g)).bind mkL = .ok (il ((xs.filter p).map h)) g := by
  rw [comp_int p h xs H, nox_ok, bind_ok', mkl_ii (by rw [List.length_map]; exact Nat.le_trans (List.length_filter_le _ _) hl)]
theorem c_map (h : Int → Int) (hl : xs.length ≤ 1000) (H : ∀ x ∈ xs, f (.int x) g = .ok (some (.int (h x))) g) : (nox (compGo f (ii xs) g)).bind mkL = .ok (il (xs.map h)) g := by
  rw [c_fm (fun _ => true) h hl (fun x hx => by rw [H x hx, if_pos rfl]), List.filter_eq_self.mpr (fun _ _ => rfl)]
/-- over anything -/
theorem c_all {α : Type} {φ : α → D} {xs : List α} (h : α → D) (hl : xs.length ≤ 1000) (H : ∀ x ∈ xs, f (φ x) g = .ok (some (h x)) g) : (nox (compGo f (xs.map φ) g)).bind mkL = .ok (.lst (xs.map h)) g := by
  rw [comp_all h xs H, nox_ok, bind_ok', mkL_ok (by rw [List.length_map]; exact hl)]
theorem c_alli {α : Type} {φ : α → D} {xs : List α} (h : α → Int) (hl : xs.length ≤ 1000) (H : ∀ x ∈ xs, f (φ x) g = .ok (some (.int (h x))) g) : (nox (compGo f (xs.map φ) g)).bind mkL = .ok (il (xs.map h)) g := by
  rw [c_all (fun x => .int (h x)) hl H, il, ii, List.map_map]; rfl
/-- none is chosen -/
theorem c_none (hl : xs.length ≤ 1000) (H : ∀ x ∈ xs, f (.int x) g = .ok none g) : (nox (compGo f (ii xs) g)).bind mkL = .ok (il []) g := by
  rw [c_flt (fun _ => false) hl (fun x hx => by rw [H x hx, if_neg (by simp)]), List.filter_eq_nil_iff.mpr (fun _ _ => by simp)]
end
/-- a loop of checks -/
theorem for_chk {α : Type} {f : D → Env → G → Out} {φ : α → D} {J : Env → G → Prop} (xs : List α) (e : Env) (g : G) (h : J e g) (st : ∀ x ∈ xs, ∀ e g, J e g → ∃ e' g', f (φ x) e g = .nx e' g' ∧ J e' g') : ∃ e' g', forGo f (xs.map φ) e g = .nx e' g' ∧ J e' g' := by
  induction xs generalizing e g with
  | nil => exact ⟨e, g, rfl, h⟩
  | cons x xs ih =>
    obtain ⟨e1, g1, h1, j1⟩ := st x List.mem_cons_self e g h
    obtain ⟨e2, g2, h2, j2⟩ := ih e1 g1 j1 (fun y hy => st y (List.mem_cons_of_mem _ hy))
    refine ⟨e2, g2, ?_, j2⟩
    simp only [List.map_cons, forGo, h1, h2]
theorem bin_app2 {xs ys : List Int} (h : xs.length + ys.length ≤ 1000) : binD .add (il xs) (il ys) = some (il (xs ++ ys)) := bin_app xs ys (Nat.le_trans h (by decide))
theorem rngI_len (lo hi : Int) : (rngI lo hi).length = (hi - lo).toNat := by simp [rngI]
theorem zip_range (n : Nat) (f h : Nat → Int) : zipD (ii ((List.range n).map f)) (ii ((List.range n).map h)) = (List.range n).map fun i : Nat => D.tup [.int (f i), .int (h i)] := by
  unfold zipD ii
  rw [List.map_map, List.map_map, List.zip_map, List.map_map]
  apply List.ext_getElem?
  intro i
  simp only [List.getElem?_map, List.getElem?_zip_eq_some]
  by_cases hi : i < n
  · simp [List.getElem?_range hi, List.zip, List.getElem?_zipWith]
  · have : (List.range n)[i]? = none := by simp; omega
    simp [this, List.zip, List.getElem?_zipWith]
end Tv.P

set_option linter.all false
set_option maxRecDepth 100000
/-! k01: what the law builds, against what the program gives. -/
namespace Tv.P
open PySem
section
variable {one other : List Int} {n : Nat}
def seen (one other : List Int) (n k : Nat) : List Int := (rngI 0 n).filter fun x => decide (x ∈ one.take k) && decide (x ∈ other.take k)
def firsts (one other : List Int) (n k : Nat) : List Int := (rngI 0 n).filter fun x => decide (x ∈ one.take k) && !decide (x ∈ seen one other n k)
theorem mem_take_rng (h1 : Full one n) {k : Nat} {x : Int} (h : x ∈ one.take k) : 0 ≤ x ∧ x < n := h1.mem.mp (List.mem_of_mem_take h)
theorem mem_both {k : Nat} {x : Int} : x ∈ both one other k ↔ x ∈ one.take k ∧ x ∈ other.take k := by simp [both, List.mem_filter]
theorem mem_seen (h1 : Full one n) {k : Nat} {x : Int} : x ∈ seen one other n k ↔ x ∈ one.take k ∧ x ∈ other.take k := by
  simp only [seen, List.mem_filter, mem_rngI, Bool.and_eq_true, decide_eq_true_eq]
  exact ⟨fun h => h.2, fun h => ⟨mem_take_rng h1 h.1, h⟩⟩
theorem nd_take (h1 : Full one n) (k : Nat) : (one.take k).Nodup := h1.nodup.sublist (List.take_sublist _ _)
theorem sort_both (h1 : Full one n) (k : Nat) : sortI (both one other k) = seen one other n k :=
  sort_rng ((nd_take h1 k).filter _) fun x => by
    rw [mem_both]
    simp only [Bool.and_eq_true, decide_eq_true_eq]
    exact ⟨fun h => ⟨mem_take_rng h1 h.1, h⟩, fun h => h.2⟩
theorem sort_len (xs : List Int) : (sortI xs).length = xs.length := (sortI_perm xs).length_eq
theorem len_seen (h1 : Full one n) (k : Nat) : (seen one other n k).length = (both one other k).length := by rw [← sort_both h1, sort_len]
theorem sort_alone (h1 : Full one n) (k : Nat) : sortI (alone one other k) = firsts one other n k :=
  sort_rng ((nd_take h1 k).filter _) fun x => by
    simp only [alone, List.mem_filter, Bool.and_eq_true, decide_eq_true_eq, Bool.not_eq_true', decide_eq_false_iff_not, mem_seen h1]
    exact ⟨fun h => ⟨mem_take_rng h1 h.1, h.1, fun z => h.2 z.2⟩, fun h => ⟨h.2.1, fun z => h.2.2 ⟨h.2.1, z⟩⟩⟩
theorem len_split (xs : List Int) (p : Int → Bool) : (xs.filter p).length + (xs.filter fun x => !p x).length = xs.length := by
  induction xs with
  | nil => rfl
  | cons x xs ih => cases hp : p x <;> simp [List.filter_cons, hp] <;> omega
theorem len_alone (h1 : Full one n) (k : Nat) (hk : k ≤ n) : (both one other k).length + (alone one other k).length = k := by
  have := len_split (one.take k) fun x => decide (x ∈ other.take k)
  rw [List.length_take, h1.len, Nat.min_eq_left hk] at this
  exact this
theorem both_comm (h1 : Full one n) (h2 : Full other n) (k : Nat) : (both other one k).length = (both one other k).length := by
  rw [← len_seen h1, ← len_seen h2]
  unfold seen
  congr 1
  exact List.filter_congr fun x _ => Bool.and_comm _ _
theorem row_comm (h1 : Full one n) (h2 : Full other n) : rowI other one = rowI one other := by
  rw [row_as, row_as, h1.len, h2.len]
  refine List.map_congr_left fun i _ => ?_
  unfold cnt
  rw [both_comm h1 h2]
/-- what becomes common -/
def freshS (one other : List Int) (n k : Nat) : List Int := (seen one other n k).filter fun x => !decide (x ∈ seen one other n (k - 1))
theorem sort_fresh (h1 : Full one n) (k : Nat) : sortI (fresh one other k) = freshS one other n k := by
  refine sort_is ((nd_take h1 k).filter _) (((rngI_nodup 0 n).filter _).filter _) ((filter_rng_sorted 0 n _).filter _) fun x => ?_
  simp only [fresh, freshS, List.mem_filter, Bool.and_eq_true, decide_eq_true_eq, Bool.not_eq_true', decide_eq_false_iff_not, mem_seen h1, mem_both]
  exact ⟨fun h => ⟨⟨h.1, h.2.1⟩, h.2.2⟩, fun h => ⟨h.1.1, h.1.2, h.2⟩⟩
theorem len_fresh (h1 : Full one n) (h2 : Full other n) (k : Nat) (hk : k < n) : (freshS one other n (k + 1)).length ≤ 2 := by
  have e := len_split (seen one other n (k + 1)) fun x => decide (x ∈ seen one other n k)
  have sub : (seen one other n (k + 1)).filter (fun x => decide (x ∈ seen one other n k)) = seen one other n k := by
    unfold seen
    rw [List.filter_filter]
    refine List.filter_congr fun x hx => ?_
    have mono : ∀ l : List Int, x ∈ l.take k → x ∈ l.take (k + 1) := fun l h => (List.take_subset_take_left l (Nat.le_succ k)) h
    have := mem_seen (other := other) h1 (k := k) (x := x)
    unfold seen at this
    by_cases a : x ∈ one.take k
    · by_cases b : x ∈ other.take k
      · simp [this, a, b, mono _ a, mono _ b]
      · simp [this, a, b]
    · simp [this, a]
  rw [sub, len_seen h1, len_seen h1] at e
  have := (both_step h1 h2 k hk).2
  unfold freshS
  rw [Nat.add_sub_cancel]
  omega
theorem seen_comm (k : Nat) : seen other one n k = seen one other n k := List.filter_congr fun x _ => Bool.and_comm _ _
theorem sort_alone2 (h2 : Full other n) (k : Nat) : sortI (alone other one k) = (rngI 0 n).filter fun x => decide (x ∈ other.take k) && !decide (x ∈ seen one other n k) := by
  rw [sort_alone h2, firsts, seen_comm]
theorem len_firsts (h1 : Full one n) (k : Nat) (hk : k ≤ n) : (firsts one other n k).length + (seen one other n k).length = k := by
  have := len_alone (other := other) h1 k hk
  rw [← sort_alone h1, sort_len, len_seen h1]
  omega
theorem len_lasts (h1 : Full one n) (h2 : Full other n) (k : Nat) (hk : k ≤ n) : ((rngI 0 n).filter fun x => decide (x ∈ other.take k) && !decide (x ∈ seen one other n k)).length = (firsts one other n k).length := by
  have e1 := len_firsts (other := other) h1 k hk
  have e2 := len_firsts (other := one) h2 k hk
  rw [← sort_alone2 h2, sort_alone h2]
  rw [seen_comm] at e2
  omega
/-- the place at which a thing becomes common -/
theorem mem_idx {xs : List Int} {x : Int} (h : x ∈ xs) (k : Nat) : x ∈ xs.take k ↔ xs.idxOf x < k := by
  constructor
  · intro hx
    have h2 : (xs.take k).idxOf x < (xs.take k).length := List.idxOf_lt_length_of_mem hx
    have h3 : xs.idxOf x = (xs.take k).idxOf x := by
      conv => lhs; rw [← List.take_append_drop k xs]
      rw [List.idxOf_append, if_pos hx]
    rw [List.length_take] at h2
    omega
  · intro hk
    have hl : xs.idxOf x < xs.length := List.idxOf_lt_length_of_mem h
    have : (xs.take k)[xs.idxOf x]? = some x := by
      rw [List.getElem?_take_of_lt hk, List.getElem?_eq_getElem hl, List.getElem_idxOf hl]
    exact List.mem_of_getElem? this
theorem mem_fresh (h1 : Full one n) (h2 : Full other n) {x : Int} (hx : 0 ≤ x ∧ x < n) (k : Nat) : x ∈ freshS one other n (k + 1) ↔ max (one.idxOf x) (other.idxOf x) = k := by
  have m1 := h1.mem.mpr hx
  have m2 := h2.mem.mpr hx
  simp only [freshS, List.mem_filter, Bool.not_eq_true', decide_eq_false_iff_not, mem_seen h1, mem_idx m1, mem_idx m2, Nat.add_sub_cancel]
  omega
end
end Tv.P

set_option linter.all false
set_option maxRecDepth 100000
/-! Plain laws: lists changed. -/
namespace Tv.P
open PySem
section
variable {one other names xs ys : List Int} {n : Nat}
/-! lists, plainly -/
theorem nth_at {xs : List Int} {k : Nat} (h : k < xs.length) : nth xs (k : Int) = xs[k] := by
  unfold nth
  rw [Int.toNat_natCast, List.getD_eq_getElem?_getD, List.getElem?_eq_getElem h]; rfl
theorem nth_idx {x : Int} (h : x ∈ xs) : nth xs (xs.idxOf x : Nat) = x := by
  rw [nth_at (List.idxOf_lt_length_of_mem h), List.getElem_idxOf]
theorem map_nth (xs : List Int) : (rng xs.length).map (nth xs) = xs := by
  unfold rng
  rw [List.map_map]
  apply List.ext_getElem?
  intro i
  rw [List.getElem?_map]
  by_cases h : i < xs.length
  · rw [List.getElem?_range h, List.getElem?_eq_getElem h]
    simp only [Option.map_some, Function.comp, nth_at h]
  · rw [List.getElem?_eq_none (by simp; omega), List.getElem?_eq_none (by omega)]; rfl
theorem Full.inj (h : Full names n) {x y : Int} (hx : 0 ≤ x ∧ x < n) (hy : 0 ≤ y ∧ y < n) (e : nth names x = nth names y) : x = y := by
  obtain ⟨i, rfl⟩ : ∃ i : Nat, x = i := ⟨x.toNat, by omega⟩
  obtain ⟨j, rfl⟩ : ∃ j : Nat, y = j := ⟨y.toNat, by omega⟩
  have hi : i < names.length := by rw [h.len]; omega
  have hj : j < names.length := by rw [h.len]; omega
  rw [nth_at hi, nth_at hj] at e
  rw [(List.getElem_inj h.nodup).mp e]
theorem Full.named (h1 : Full one n) (h : Full names n) : Full (one.map (nth names)) n := by
  refine ⟨?_, h1.pos, h1.most⟩
  have e : (rng n).map (nth names) = names := by rw [← h.len]; exact map_nth names
  have := h1.perm.map (nth names)
  rw [e] at this
  exact this.trans h.perm
theorem idx_map {σ : Int → Int} {x : Int} : ∀ {xs : List Int}, (∀ y ∈ xs, σ y = σ x → y = x) → (xs.map σ).idxOf (σ x) = xs.idxOf x
  | [], _ => rfl
  | y :: xs, h => by
    rw [List.map_cons, List.idxOf_cons, List.idxOf_cons, idx_map fun z hz => h z (List.mem_cons_of_mem _ hz)]
    by_cases e : y = x
    · subst e; simp
    · have h1 : (σ y == σ x) = false := by simpa using fun z => e (h y List.mem_cons_self z)
      have h2 : (y == x) = false := by simpa using e
      rw [h1, h2]
theorem both_map {σ : Int → Int} (h : ∀ x ∈ one, ∀ y ∈ other, σ y = σ x → y = x) (k : Nat) : both (one.map σ) (other.map σ) k = (both one other k).map σ := by
  unfold both
  rw [← List.map_take, ← List.map_take, List.filter_map]
  congr 1
  refine List.filter_congr fun x hx => ?_
  have hx' : x ∈ one := List.mem_of_mem_take hx
  refine decide_eq_decide.mpr ?_
  constructor
  · intro z
    obtain ⟨y, hy, e⟩ := List.mem_map.mp z
    exact h x hx' y (List.mem_of_mem_take hy) e ▸ hy
  · exact fun z => List.mem_map.mpr ⟨x, z, rfl⟩
theorem row_map {σ : Int → Int} (h : ∀ x ∈ one, ∀ y ∈ other, σ y = σ x → y = x) : rowI (one.map σ) (other.map σ) = rowI one other := by
  rw [row_as, row_as, List.length_map]
  refine List.map_congr_left fun i _ => ?_
  unfold cnt
  rw [both_map h, List.length_map]
/-! fair lists' number -/
def endsI (one other : List Int) (n : Nat) : List Int := (rngI 0 n).map fun t => min (n : Int) (2 * (1 + ((min (one.idxOf t) (other.idxOf t) : Nat) : Int)))
def wprod (l : List Int) : Int := l.zipIdx.foldl (fun a p => a * (p.1 - (p.2 : Int))) 1
theorem ends_le {x : Int} (h : x ∈ endsI one other n) : 0 ≤ x ∧ x ≤ n := by
  obtain ⟨t, ht, rfl⟩ := List.mem_map.mp h
  omega
theorem better_ok (g : G) (h1 : Full one n) (h2 : Full other n) (x : Int) (hx : 0 ≤ x ∧ x < n) : F_better [il one, il other, .int x] g = .ok (.int (1 + ((min (one.idxOf x) (other.idxOf x) : Nat) : Int))) g := by
  have m1 := h1.mem.mpr hx
  have m2 := h2.mem.mpr hx
  unfold F_better b_better
  simp only [pvL, mkFn, gt, st, wipeE, List.length_cons, List.length_nil, List.replicate, List.map_cons, List.map_nil, List.cons_append, List.nil_append, List.append_nil, List.getD_cons_zero, List.getD_cons_succ, Nat.reduceAdd, Nat.reduceSub, Nat.reduceLT, if_true, ite_true, ite_false, reduceIte, Option.map_some, me_index one x m1, me_index other x m2]
  congr 3
  split <;> omega
theorem enum_ii (xs : List Int) : enumD (ii xs) = xs.zipIdx.map fun p => D.tup [.int (p.2 : Int), .int p.1] := by
  unfold enumD ii
  rw [List.zipIdx_map, List.map_map]; rfl
theorem zip_small {xs : List Int} {p : Int × Nat} (h : p ∈ xs.zipIdx) : p.2 < xs.length ∧ p.1 ∈ xs := by
  obtain ⟨a, b⟩ := p
  have := List.mem_zipIdx h
  simp only [Nat.zero_le, Nat.zero_add, true_and] at this
  exact ⟨this.1, by rw [this.2]; exact List.getElem_mem _⟩
theorem ways_ok (g : G) (h1 : Full one n) (h2 : Full other n) : F_ways [il one, il other] g = .ok (.int (wprod (sortI (endsI one other n)))) g := by
  have hm := h1.most
  have hl : (sortI (endsI one other n)).length = n := by rw [sort_len, endsI, List.length_map, rngI_len]; omega
  unfold F_ways b_ways
  simp only [pvL, mkFn, gt, st, wipeE, List.length_cons, List.length_nil, List.replicate, List.map_cons, List.map_nil, List.cons_append, List.nil_append, List.append_nil, List.getD_cons_zero, List.getD_cons_succ, Nat.reduceAdd, Nat.reduceSub, Nat.reduceLT, if_true, ite_true, ite_false, reduceIte, Option.map_some, h1.len, rngD_ii 0 n (by omega)]
  rw [c_map (fun t => min (n : Int) (2 * (1 + ((min (one.idxOf t) (other.idxOf t) : Nat) : Int)))) (by rw [rngI_len]; omega)]
  · rw [show (rngI 0 n).map (fun t => min (n : Int) (2 * (1 + ((min (one.idxOf t) (other.idxOf t) : Nat) : Int)))) = endsI one other n from rfl]
    simp only [pvL, mkFn, gt, st, wipeE, List.length_cons, List.length_nil, List.replicate, List.map_cons, List.map_nil, List.cons_append, List.nil_append, List.append_nil, List.getD_cons_zero, List.getD_cons_succ, Nat.reduceAdd, Nat.reduceSub, Nat.reduceLT, if_true, ite_true, ite_false, reduceIte, Option.map_some, enum_ii]
    obtain ⟨e', g', q1, u, v, q2, q3⟩ := for_inv (f := forF [F_better] (.tup [5, 6]) (.cons (.aug 4 .mul (.bin .sub (.var 6) (.var 5))) .nil)) (φ := fun p : Int × Nat => D.tup [.int (p.2 : Int), .int p.1])
      (J := fun done e g' => ∃ u v, e = [some (il one), some (il other), some (il (sortI (endsI one other n))), none, some (.int (done.foldl (fun a p => a * (p.1 - (p.2 : Int))) 1)), u, v] ∧ g' = g)
      (sortI (endsI one other n)).zipIdx [] [some (il one), some (il other), some (il (sortI (endsI one other n))), none, some (.int 1), none, none] g ⟨none, none, rfl, rfl⟩ (by
        rintro d x rest e g' hd ⟨u, v, rfl, rfl⟩
        have hx : x ∈ (sortI (endsI one other n)).zipIdx := by rw [List.nil_append] at hd; rw [hd]; simp
        obtain ⟨b1, b2⟩ := zip_small hx
        have b3 := ends_le ((sortI_perm _).mem_iff.mp b2)
        rw [hl] at b1
        refine ⟨_, _, .inl ?_, ⟨some (.int x.2), some (.int x.1), rfl, rfl⟩⟩
        simp only [pvL, mkFn, gt, st, wipeE, List.length_cons, List.length_nil, List.replicate, List.map_cons, List.map_nil, List.cons_append, List.nil_append, List.append_nil, List.getD_cons_zero, List.getD_cons_succ, Nat.reduceAdd, Nat.reduceSub, Nat.reduceLT, if_true, ite_true, ite_false, reduceIte, Option.map_some, s_augM _ _ (x.1 - (x.2 : Int)) (.inr (by omega)), List.foldl_append, List.foldl_cons, List.foldl_nil])
    rw [q1]
    subst q2 q3
    simp only [pvL, mkFn, gt, st, wipeE, List.length_cons, List.length_nil, List.replicate, List.map_cons, List.map_nil, List.cons_append, List.nil_append, List.append_nil, List.getD_cons_zero, List.getD_cons_succ, Nat.reduceAdd, Nat.reduceSub, Nat.reduceLT, if_true, ite_true, ite_false, reduceIte, Option.map_some, wprod]
  · intro x hx
    have hx := mem_rngI.mp hx
    simp only [pvL, mkFn, gt, st, wipeE, List.length_cons, List.length_nil, List.replicate, List.map_cons, List.map_nil, List.cons_append, List.nil_append, List.append_nil, List.getD_cons_zero, List.getD_cons_succ, Nat.reduceAdd, Nat.reduceSub, Nat.reduceLT, if_true, ite_true, ite_false, reduceIte, Option.map_some, better_ok g h1 h2 x hx, h1.len]
    generalize ((min (one.idxOf x) (other.idxOf x) : Nat) : Int) = m
    simp only [pvL, mkFn, gt, st, wipeE, List.length_cons, List.length_nil, List.replicate, List.map_cons, List.map_nil, List.cons_append, List.nil_append, List.append_nil, List.getD_cons_zero, List.getD_cons_succ, Nat.reduceAdd, Nat.reduceSub, Nat.reduceLT, if_true, ite_true, ite_false, reduceIte, Option.map_some, bin_mul 2 (1 + m) (.inl (by omega))]
    congr 3
    split <;> omega
theorem count_fair_ok (g : G) (h1 : Full one n) (h2 : Full other n) : F_count_fair [il one, il other] g = .ok (.int (wprod (sortI (endsI one other n)))) g := by
  unfold F_count_fair b_count_fair
  simp only [pvL, mkFn, gt, st, wipeE, List.length_cons, List.length_nil, List.replicate, List.map_cons, List.map_nil, List.cons_append, List.nil_append, List.append_nil, List.getD_cons_zero, List.getD_cons_succ, Nat.reduceAdd, Nat.reduceSub, Nat.reduceLT, if_true, ite_true, ite_false, reduceIte, Option.map_some, check_both_ok g h1 h2, ways_ok g h1 h2]
theorem ends_named (h1 : Full one n) (h2 : Full other n) (h : Full names n) : sortI (endsI (one.map (nth names)) (other.map (nth names)) n) = sortI (endsI one other n) := by
  refine sorted_eq ((sortI_perm _).trans (List.Perm.trans ?_ (sortI_perm _).symm)) (sortI_sorted _) (sortI_sorted _)
  have p : (rngI 0 n).Perm ((rngI 0 n).map (nth names)) := by
    have e : (rng n).map (nth names) = names := by rw [← h.len]; exact map_nth names
    rw [← rng_eq, e]
    exact h.perm.symm
  unfold endsI
  refine (p.map _).trans ?_
  rw [List.map_map]
  refine List.Perm.of_eq (List.map_congr_left fun t ht => ?_)
  have ht := mem_rngI.mp ht
  simp only [Function.comp]
  rw [idx_map fun y hy e => h.inj (h1.mem.mp hy) ht e, idx_map fun y hy e => h.inj (h2.mem.mp hy) ht e]
end
end Tv.P

set_option linter.all false
set_option maxRecDepth 100000
/-! Plain laws: the program's changes of lists. -/
namespace Tv.P
open PySem
section
variable {one other names xs ys : List Int} {n : Nat}
def exch (xs : List Int) (k : Nat) : List Int := xs.take k ++ [nth xs ((k : Int) + 1), nth xs k] ++ xs.drop (k + 2)
theorem il_cons2 (a b : Int) : D.lst [.int a, .int b] = il [a, b] := id rfl
theorem il_one (a : Int) : D.lst [.int a] = il [a] := id rfl
theorem exch_eval (xs : List Int) (k : Nat) (hk : k + 1 < xs.length) : nth xs ((k : Int) + 1) = xs[k + 1] ∧ nth xs (k : Int) = xs[k]'(by omega) := ⟨nth_at (k := k + 1) hk, nth_at (by omega)⟩
theorem exchanged_ok (g : G) (h : Full one n) (k : Nat) (hk : k + 1 < n) : F_exchanged [il one, .int k] g = .ok (il (exch one k)) g := by
  have hm := h.most
  have h0 : (0 : Int) ≤ k := by omega
  have h2 : (k : Int) ≤ (n : Int) - 2 := by omega
  have hl := h.len
  unfold F_exchanged b_exchanged
  simp only [pvL, mkFn, gt, st, wipeE, List.length_cons, List.length_nil, List.replicate, List.map_cons, List.map_nil, List.cons_append, List.nil_append, List.append_nil, List.getD_cons_zero, List.getD_cons_succ, Nat.reduceAdd, Nat.reduceSub, Nat.reduceLT, if_true, ite_true, ite_false, reduceIte, Option.map_some, check_full_ok g h, is_int_ok, h.len, h0, h2, sub_il one ((k : Int) + 1) (by omega) (by omega), sub_il one (k : Int) (by omega) (by omega), cut_to one (k : Int) h0, il_cons2]
  rw [bin_app2 (by simp; omega)]
  simp only [pvL, mkFn, gt, st, wipeE, List.length_cons, List.length_nil, List.replicate, List.map_cons, List.map_nil, List.cons_append, List.nil_append, List.append_nil, List.getD_cons_zero, List.getD_cons_succ, Nat.reduceAdd, Nat.reduceSub, Nat.reduceLT, if_true, ite_true, ite_false, reduceIte, Option.map_some, cut_from one ((k : Int) + 2) (by omega)]
  rw [bin_app2 (by simp; omega)]
  simp only [pvL, mkFn, gt, st, wipeE, List.length_cons, List.length_nil, List.replicate, List.map_cons, List.map_nil, List.cons_append, List.nil_append, List.append_nil, List.getD_cons_zero, List.getD_cons_succ, Nat.reduceAdd, Nat.reduceSub, Nat.reduceLT, if_true, ite_true, ite_false, reduceIte, Option.map_some]
  rw [Int.toNat_natCast, show ((k : Int) + 2).toNat = k + 2 by omega]
  simp only [exch, List.append_assoc, List.cons_append, List.nil_append]
theorem exch_len (k : Nat) (hk : k + 1 < xs.length) : (exch xs k).length = xs.length := by
  simp only [exch, List.length_append, List.length_take, List.length_cons, List.length_nil, List.length_drop]; omega
theorem split2 (k : Nat) (hk : k + 1 < xs.length) : xs = xs.take k ++ [xs[k], xs[k + 1]] ++ xs.drop (k + 2) := by
  have e : xs.drop k = xs[k] :: xs[k + 1] :: xs.drop (k + 2) := by
    rw [List.drop_eq_getElem_cons (by omega), List.drop_eq_getElem_cons hk]
  conv => lhs; rw [← List.take_append_drop k xs, e]
  simp
theorem exch_form (k : Nat) (hk : k + 1 < xs.length) : exch xs k = xs.take k ++ [xs[k + 1], xs[k]] ++ xs.drop (k + 2) := by
  obtain ⟨e1, e2⟩ := exch_eval xs k hk
  unfold exch
  rw [e1, e2]
theorem exch_perm (k : Nat) (hk : k + 1 < xs.length) : (exch xs k).Perm xs := by
  rw [exch_form k hk]
  conv => rhs; rw [split2 k hk]
  exact (List.Perm.append_left _ (.swap _ _ _)).append_right _
theorem Full.exch (h : Full one n) (k : Nat) (hk : k + 1 < n) : Full (exch one k) n := ⟨(exch_perm k (by rw [h.len]; exact hk)).trans h.perm, h.pos, h.most⟩
theorem exch_take (k : Nat) (hk : k + 1 < xs.length) : (Tv.P.exch xs k).take k = xs.take k := by
  rw [exch_form k hk, List.append_assoc, List.take_append_of_le_length (by rw [List.length_take]; omega), List.take_take, Nat.min_self]
theorem exch_get (k : Nat) (hk : k + 1 < xs.length) : (Tv.P.exch xs k)[k]? = some xs[k + 1] ∧ (Tv.P.exch xs k)[k + 1]? = some xs[k] := by
  have hl : (xs.take k).length = k := by rw [List.length_take]; omega
  rw [exch_form k hk, List.append_assoc]
  constructor
  · rw [List.getElem?_append_right (by omega), hl]; simp
  · rw [List.getElem?_append_right (by omega), hl]; simp
theorem exch_drop (k : Nat) (hk : k + 1 < xs.length) : (Tv.P.exch xs k).drop (k + 2) = xs.drop (k + 2) := by
  have hl : (xs.take k ++ [xs[k + 1], xs[k]]).length = k + 2 := by rw [List.length_append, List.length_take]; simp; omega
  rw [exch_form k hk, List.drop_append_of_le_length (by omega), List.drop_of_length_le (by omega), List.nil_append]
theorem exch_exch (k : Nat) (hk : k + 1 < xs.length) : Tv.P.exch (Tv.P.exch xs k) k = xs := by
  have hk2 : k + 1 < (Tv.P.exch xs k).length := by rw [exch_len k hk]; exact hk
  obtain ⟨e1, e2⟩ := exch_get k hk
  have e1' := List.getElem?_eq_some_iff.mp e1
  have e2' := List.getElem?_eq_some_iff.mp e2
  rw [exch_form (xs := Tv.P.exch xs k) k hk2, exch_take k hk, exch_drop k hk, e1'.2, e2'.2]
  exact (split2 k hk).symm
/-- the beginnings of a list with neighbours exchanged -/
theorem exch_mem (k j : Nat) (hk : k + 1 < xs.length) (hj : j ≠ k + 1) (x : Int) : x ∈ (Tv.P.exch xs k).take j ↔ x ∈ xs.take j := by
  rcases Nat.lt_or_gt_of_ne hj with h | h
  · have e : (Tv.P.exch xs k).take j = xs.take j := by
      have := congrArg (List.take j) (exch_take k hk)
      rwa [List.take_take, List.take_take, Nat.min_eq_left (by omega)] at this
    rw [e]
  · have p : ((Tv.P.exch xs k).take j).Perm (xs.take j) := by
      have q : ((Tv.P.exch xs k).take j ++ (Tv.P.exch xs k).drop j).Perm (xs.take j ++ xs.drop j) := by
        rw [List.take_append_drop, List.take_append_drop]
        exact exch_perm k hk
      have d : (Tv.P.exch xs k).drop j = xs.drop j := by
        have := congrArg (List.drop (j - (k + 2))) (exch_drop k hk)
        rwa [List.drop_drop, List.drop_drop, show k + 2 + (j - (k + 2)) = j by omega] at this
      rw [d] at q
      exact (List.perm_append_right_iff _).mp q
    exact p.mem_iff
theorem both_exch (h1 : Full one n) (h2 : Full other n) (k j : Nat) (hk : k + 1 < n) (hj : j ≠ k + 1) : both one (Tv.P.exch other k) j = both one other j :=
  List.filter_congr fun x _ => decide_eq_decide.mpr (exch_mem k j (by rw [h2.len]; exact hk) hj x)
theorem both_exch1 (h1 : Full one n) (h2 : Full other n) (k : Nat) (hk : k + 1 < n) : (both one (Tv.P.exch other k) (k + 1)).length ≤ (both one other (k + 1)).length + 1 ∧ (both one other (k + 1)).length ≤ (both one (Tv.P.exch other k) (k + 1)).length + 1 := by
  have hl : k + 1 < other.length := by rw [h2.len]; exact hk
  have nd : (one.take (k + 1)).Nodup := h1.nodup.sublist (List.take_sublist _ _)
  have e : ∀ (ys : List Int) (b : Int), ys.take k = other.take k → ys[k]? = some b → both one ys (k + 1) = (one.take (k + 1)).filter fun x => decide (x ∈ other.take k) || decide (x = b) := fun ys b e1 e2 => by
    refine List.filter_congr fun x _ => ?_
    rw [← Bool.decide_or]
    refine decide_eq_decide.mpr ?_
    obtain ⟨hk', e3⟩ := List.getElem?_eq_some_iff.mp e2
    rw [take_snoc hk', e1, e3, List.mem_append, List.mem_singleton]
  have f1 := filter_one (one.take (k + 1)) (fun x => decide (x ∈ other.take k)) (other[k]'(by omega)) nd
  have f2 := filter_one (one.take (k + 1)) (fun x => decide (x ∈ other.take k)) (other[k + 1]) nd
  rw [← e other _ rfl (List.getElem?_eq_getElem (by omega))] at f1
  rw [← e (Tv.P.exch other k) _ (exch_take k hl) (exch_get k hl).1] at f2
  omega
/-! the others -/
theorem renamed_ok (g : G) (h1 : Full one n) (h : Full names n) : F_renamed [il one, il names] g = .ok (il (one.map (nth names))) g := by
  have hm := h1.most
  unfold F_renamed b_renamed
  simp only [pvL, mkFn, gt, st, wipeE, List.length_cons, List.length_nil, List.replicate, List.map_cons, List.map_nil, List.cons_append, List.nil_append, List.append_nil, List.getD_cons_zero, List.getD_cons_succ, Nat.reduceAdd, Nat.reduceSub, Nat.reduceLT, if_true, ite_true, ite_false, reduceIte, Option.map_some, check_both_ok g h1 h]
  rw [c_map (nth names) (by rw [h1.len]; omega)]
  · simp only [pvL, mkFn, gt, st, wipeE, List.length_cons, List.length_nil, List.replicate, List.map_cons, List.map_nil, List.cons_append, List.nil_append, List.append_nil, List.getD_cons_zero, List.getD_cons_succ, Nat.reduceAdd, Nat.reduceSub, Nat.reduceLT, if_true, ite_true, ite_false, reduceIte, Option.map_some]
  · intro x hx
    have hx := h1.mem.mp hx
    simp only [pvL, mkFn, gt, st, wipeE, List.length_cons, List.length_nil, List.replicate, List.map_cons, List.map_nil, List.cons_append, List.nil_append, List.append_nil, List.getD_cons_zero, List.getD_cons_succ, Nat.reduceAdd, Nat.reduceSub, Nat.reduceLT, if_true, ite_true, ite_false, reduceIte, Option.map_some, sub_il names x hx.1 (by rw [h.len]; exact hx.2)]
def spots (one : List Int) (n : Nat) : List Int := (rngI 0 n).map fun x => ((one.idxOf x : Nat) : Int)
theorem places_ok (g : G) (h1 : Full one n) : F_places [il one] g = .ok (il (spots one n)) g := by
  have hm := h1.most
  unfold F_places b_places
  simp only [pvL, mkFn, gt, st, wipeE, List.length_cons, List.length_nil, List.replicate, List.map_cons, List.map_nil, List.cons_append, List.nil_append, List.append_nil, List.getD_cons_zero, List.getD_cons_succ, Nat.reduceAdd, Nat.reduceSub, Nat.reduceLT, if_true, ite_true, ite_false, reduceIte, Option.map_some, check_full_ok g h1, h1.len, rngD_ii 0 n (by omega)]
  rw [c_map (fun x => ((one.idxOf x : Nat) : Int)) (by rw [rngI_len]; omega)]
  · simp only [pvL, mkFn, gt, st, wipeE, List.length_cons, List.length_nil, List.replicate, List.map_cons, List.map_nil, List.cons_append, List.nil_append, List.append_nil, List.getD_cons_zero, List.getD_cons_succ, Nat.reduceAdd, Nat.reduceSub, Nat.reduceLT, if_true, ite_true, ite_false, reduceIte, Option.map_some, spots]
  · intro x hx
    simp only [pvL, mkFn, gt, st, wipeE, List.length_cons, List.length_nil, List.replicate, List.map_cons, List.map_nil, List.cons_append, List.nil_append, List.append_nil, List.getD_cons_zero, List.getD_cons_succ, Nat.reduceAdd, Nat.reduceSub, Nat.reduceLT, if_true, ite_true, ite_false, reduceIte, Option.map_some, me_index one x (h1.mem.mpr (mem_rngI.mp hx))]
def seenFrom (one other : List Int) : List Int := other.map fun x => ((one.idxOf x : Nat) : Int)
theorem seen_from_ok (g : G) (h1 : Full one n) (h2 : Full other n) : F_seen_from [il one, il other] g = .ok (il (seenFrom one other)) g := by
  have hm := h1.most
  unfold F_seen_from b_seen_from
  simp only [pvL, mkFn, gt, st, wipeE, List.length_cons, List.length_nil, List.replicate, List.map_cons, List.map_nil, List.cons_append, List.nil_append, List.append_nil, List.getD_cons_zero, List.getD_cons_succ, Nat.reduceAdd, Nat.reduceSub, Nat.reduceLT, if_true, ite_true, ite_false, reduceIte, Option.map_some, check_both_ok g h1 h2]
  rw [c_map (fun x => ((one.idxOf x : Nat) : Int)) (by rw [h2.len]; omega)]
  · simp only [pvL, mkFn, gt, st, wipeE, List.length_cons, List.length_nil, List.replicate, List.map_cons, List.map_nil, List.cons_append, List.nil_append, List.append_nil, List.getD_cons_zero, List.getD_cons_succ, Nat.reduceAdd, Nat.reduceSub, Nat.reduceLT, if_true, ite_true, ite_false, reduceIte, Option.map_some, seenFrom]
  · intro x hx
    simp only [pvL, mkFn, gt, st, wipeE, List.length_cons, List.length_nil, List.replicate, List.map_cons, List.map_nil, List.cons_append, List.nil_append, List.append_nil, List.getD_cons_zero, List.getD_cons_succ, Nat.reduceAdd, Nat.reduceSub, Nat.reduceLT, if_true, ite_true, ite_false, reduceIte, Option.map_some, me_index one x (h1.mem.mpr (h2.mem.mp hx))]
theorem rev_ii (xs : List Int) : (ii xs).reverse = ii xs.reverse := by simp [ii]
theorem backward_ok (g : G) (h1 : Full one n) : F_backward [il one] g = .ok (il one.reverse) g := by
  unfold F_backward b_backward
  simp only [pvL, mkFn, gt, st, wipeE, List.length_cons, List.length_nil, List.replicate, List.map_cons, List.map_nil, List.cons_append, List.nil_append, List.append_nil, List.getD_cons_zero, List.getD_cons_succ, Nat.reduceAdd, Nat.reduceSub, Nat.reduceLT, if_true, ite_true, ite_false, reduceIte, Option.map_some, check_full_ok g h1, rev_ii]
theorem Full.reverse (h1 : Full one n) : Full one.reverse n := ⟨(List.reverse_perm one).trans h1.perm, h1.pos, h1.most⟩
def without (one : List Int) (x : Int) : List Int := (one.filter fun y => !decide (y = x)).map fun y => if x < y then y - 1 else y
theorem without_ok (g : G) (h1 : Full one n) (x : Int) (hx : 0 ≤ x ∧ x < n) (hn : 1 < n) : F_without_thing [il one, .int x] g = .ok (il (without one x)) g := by
  have hm := h1.most
  have h2 : x ≤ (n : Int) - 1 := by omega
  have h3 : ¬ ((n : Int) = 1) := by omega
  unfold F_without_thing b_without_thing
  simp only [pvL, mkFn, gt, st, wipeE, List.length_cons, List.length_nil, List.replicate, List.map_cons, List.map_nil, List.cons_append, List.nil_append, List.append_nil, List.getD_cons_zero, List.getD_cons_succ, Nat.reduceAdd, Nat.reduceSub, Nat.reduceLT, if_true, ite_true, ite_false, reduceIte, Option.map_some, check_full_ok g h1, is_int_ok, h1.len, hx.1, h2, h3]
  rw [c_fm (fun y => !decide (y = x)) (fun y => if x < y then y - 1 else y) (by rw [h1.len]; omega)]
  · simp only [pvL, mkFn, gt, st, wipeE, List.length_cons, List.length_nil, List.replicate, List.map_cons, List.map_nil, List.cons_append, List.nil_append, List.append_nil, List.getD_cons_zero, List.getD_cons_succ, Nat.reduceAdd, Nat.reduceSub, Nat.reduceLT, if_true, ite_true, ite_false, reduceIte, Option.map_some, without]
  · intro y hy
    simp only [pvL, mkFn, gt, st, wipeE, List.length_cons, List.length_nil, List.replicate, List.map_cons, List.map_nil, List.cons_append, List.nil_append, List.append_nil, List.getD_cons_zero, List.getD_cons_succ, Nat.reduceAdd, Nat.reduceSub, Nat.reduceLT, if_true, ite_true, ite_false, reduceIte, Option.map_some]
def rest (one : List Int) (x : Int) : List Int := one.filter fun y => !decide (y = x)
def movd (one : List Int) (x : Int) (k : Nat) : List Int := (rest one x).take k ++ [x] ++ (rest one x).drop k
theorem rest_len (h1 : Full one n) (x : Int) (hx : 0 ≤ x ∧ x < n) : (rest one x).length + 1 = n := by
  have e := len_split one fun y => decide (y = x)
  have c : (one.filter fun y => decide (y = x)).length = 1 := by
    have p : (one.filter fun y => decide (y = x)).Perm [x] := by
      refine (List.perm_ext_iff_of_nodup (h1.nodup.filter _) (by simp)).mpr fun y => ?_
      simp only [List.mem_filter, decide_eq_true_eq, List.mem_singleton]
      exact ⟨fun h => h.2, fun h => ⟨h ▸ h1.mem.mpr hx, h⟩⟩
    rw [p.length_eq]; rfl
  rw [h1.len] at e
  unfold rest
  omega
theorem moved_ok (g : G) (h1 : Full one n) (x : Int) (hx : 0 ≤ x ∧ x < n) (k : Int) (hk : 0 ≤ k ∧ k < n) : F_moved [il one, .int x, .int k] g = .ok (il (movd one x k.toNat)) g := by
  have hm := h1.most
  have h2 : x ≤ (n : Int) - 1 := by omega
  have h3 : k ≤ (n : Int) - 1 := by omega
  have hl := rest_len h1 x hx
  unfold F_moved b_moved
  simp only [pvL, mkFn, gt, st, wipeE, List.length_cons, List.length_nil, List.replicate, List.map_cons, List.map_nil, List.cons_append, List.nil_append, List.append_nil, List.getD_cons_zero, List.getD_cons_succ, Nat.reduceAdd, Nat.reduceSub, Nat.reduceLT, if_true, ite_true, ite_false, reduceIte, Option.map_some, check_full_ok g h1, is_int_ok, h1.len, hx.1, h2, hk.1, h3]
  rw [c_flt (fun y => !decide (y = x)) (by rw [h1.len]; omega)]
  · rw [show one.filter (fun y => !decide (y = x)) = rest one x from rfl]
    simp only [pvL, mkFn, gt, st, wipeE, List.length_cons, List.length_nil, List.replicate, List.map_cons, List.map_nil, List.cons_append, List.nil_append, List.append_nil, List.getD_cons_zero, List.getD_cons_succ, Nat.reduceAdd, Nat.reduceSub, Nat.reduceLT, if_true, ite_true, ite_false, reduceIte, Option.map_some, il_one, cut_to (rest one x) k hk.1]
    rw [bin_app2 (by simp; omega)]
    simp only [pvL, mkFn, gt, st, wipeE, List.length_cons, List.length_nil, List.replicate, List.map_cons, List.map_nil, List.cons_append, List.nil_append, List.append_nil, List.getD_cons_zero, List.getD_cons_succ, Nat.reduceAdd, Nat.reduceSub, Nat.reduceLT, if_true, ite_true, ite_false, reduceIte, Option.map_some, cut_from (rest one x) k hk.1]
    rw [bin_app2 (by simp; omega)]
    simp only [pvL, mkFn, gt, st, wipeE, List.length_cons, List.length_nil, List.replicate, List.map_cons, List.map_nil, List.cons_append, List.nil_append, List.append_nil, List.getD_cons_zero, List.getD_cons_succ, Nat.reduceAdd, Nat.reduceSub, Nat.reduceLT, if_true, ite_true, ite_false, reduceIte, Option.map_some, movd]
  · intro y hy
    simp only [pvL, mkFn, gt, st, wipeE, List.length_cons, List.length_nil, List.replicate, List.map_cons, List.map_nil, List.cons_append, List.nil_append, List.append_nil, List.getD_cons_zero, List.getD_cons_succ, Nat.reduceAdd, Nat.reduceSub, Nat.reduceLT, if_true, ite_true, ite_false, reduceIte, Option.map_some]
theorem rest_no : ∀ (l : List Int) (x : Int), (∀ y ∈ l, y ≠ x) → l.filter (fun y => !decide (y = x)) = l := fun l x h => List.filter_eq_self.mpr fun y hy => by simp [h y hy]
theorem rest_movd (x : Int) (k : Nat) : rest (movd one x k) x = rest one x := by
  have ne : ∀ y ∈ rest one x, y ≠ x := fun y hy => by
    have := (List.mem_filter.mp hy).2
    simpa using this
  unfold movd
  rw [show rest ((rest one x).take k ++ [x] ++ (rest one x).drop k) x = ((rest one x).take k ++ [x] ++ (rest one x).drop k).filter (fun y => !decide (y = x)) from rfl, List.filter_append, List.filter_append, rest_no _ x (fun y hy => ne y (List.mem_of_mem_take hy)), rest_no _ x (fun y hy => ne y (List.mem_of_mem_drop hy))]
  simp
theorem movd_at (h1 : Full one n) (x : Int) (hx : 0 ≤ x ∧ x < n) (k : Int) (hk : 0 ≤ k ∧ k < n) : (movd one x k.toNat).length = n ∧ nth (movd one x k.toNat) k = x := by
  have hl := rest_len h1 x hx
  refine ⟨by simp [movd]; omega, ?_⟩
  unfold nth movd
  rw [List.append_assoc, List.getD_eq_getElem?_getD, List.getElem?_append_right (by simp; omega), List.length_take, Nat.min_eq_left (by omega)]
  simp
/-! turned round -/
theorem both_rev (h1 : Full one n) (h2 : Full other n) (k : Nat) (hk : k ≤ n) : (both one.reverse other.reverse k).length + 2 * (n - k) = (both one other (n - k)).length + n := by
  have hm : n - k ≤ n := Nat.sub_le _ _
  generalize hmm : n - k = m at *
  have t1 : one.reverse.take k = (one.drop m).reverse := by rw [List.take_reverse, h1.len, show n - k = m from hmm]
  have t2 : other.reverse.take k = (other.drop m).reverse := by rw [List.take_reverse, h2.len, show n - k = m from hmm]
  have e1 : (both one.reverse other.reverse k).length = ((one.drop m).filter fun x => !decide (x ∈ other.take m)).length := by
    unfold both
    rw [t1, t2, List.filter_reverse, List.length_reverse]
    congr 1
    refine List.filter_congr fun x hx => ?_
    have hx1 : x ∈ one := List.mem_of_mem_drop hx
    have hx2 : x ∈ other := h2.mem.mpr (h1.mem.mp hx1)
    have nd := h2.nodup
    rw [← List.take_append_drop m other] at nd hx2
    have dj := (List.nodup_append.mp nd).2.2
    simp only [List.mem_reverse]
    rcases List.mem_append.mp hx2 with a | a
    · have b : x ∉ other.drop m := fun z => dj x a x z rfl
      simp [a, b]
    · have b : x ∉ other.take m := fun z => dj x z x a rfl
      simp [a, b]
  have e2 := len_split (one.drop m) fun x => decide (x ∈ other.take m)
  have e3 : (one.filter fun x => decide (x ∈ other.take m)).length = m := by
    have p : (one.filter fun x => decide (x ∈ other.take m)).Perm (other.take m) := by
      refine (List.perm_ext_iff_of_nodup (h1.nodup.filter _) (h2.nodup.sublist (List.take_sublist _ _))).mpr fun x => ?_
      simp only [List.mem_filter, decide_eq_true_eq]
      exact ⟨fun h => h.2, fun h => ⟨h1.mem.mpr (mem_take_rng h2 h), h⟩⟩
    rw [p.length_eq, List.length_take, h2.len]; omega
  have e4 : (one.filter fun x => decide (x ∈ other.take m)).length = (both one other m).length + ((one.drop m).filter fun x => decide (x ∈ other.take m)).length := by
    unfold both
    rw [← List.length_append, ← List.filter_append, List.take_append_drop]
  rw [List.length_drop, h1.len] at e2
  omega
end
end Tv.P

set_option linter.all false
set_option maxRecDepth 100000
/-! Plain laws: letters. -/
namespace Tv.P
open PySem
abbrev L := Fin 10
def lt (i : L) : Str := ⟨#[97 + i.val]⟩
def φ (i : L) : D := .str (lt i)
def ff (xs : List L) : List D := xs.map φ
abbrev fl (xs : List L) : D := .lst (ff xs)
theorem lt_beq : ∀ a b : L, (lt a == lt b) = decide (a = b) := by decide +kernel
theorem eqD_f (a b : L) : eqD (φ a) (φ b) = decide (a = b) := by simp only [φ, eqD, lt_beq]
theorem pln_f : ∀ (n : Nat) (a : L), pln n (φ a) = true := by
  have h : ∀ a : L, (lt a).cps.all (· < 0x110000) = true := by decide +kernel
  intro n a
  unfold φ
  cases n <;> simp only [pln, h]
theorem plnL_f (n : Nat) : ∀ xs : List L, plnL n (ff xs) = true
  | [] => by cases n <;> rfl
  | x :: xs => by
    have := plnL_f n xs
    simp only [ff, List.map_cons, plnL, pln_f, Bool.true_and] at *
    exact this
theorem pln_fl (n : Nat) (xs : List L) : pln (n + 1) (fl xs) = true := by simp only [pln]; exact plnL_f n xs
theorem eqL_f : ∀ (xs ys : List L), eqL (ff xs) (ff ys) = decide (xs = ys)
  | [], [] => by simp [eqL, ff]
  | [], y :: ys => by simp [eqL, ff]
  | x :: xs, [] => by simp [eqL, ff]
  | x :: xs, y :: ys => by
    have := eqL_f xs ys
    simp only [ff, List.map_cons, eqL, eqD_f] at *
    rw [this]
    by_cases h : x = y <;> by_cases h2 : xs = ys <;> simp [h, h2]
theorem eqD_fl (xs ys : List L) : eqD (fl xs) (fl ys) = decide (xs = ys) := by simp only [eqD, eqL_f]
theorem ff_len (xs : List L) : (ff xs).length = xs.length := List.length_map ..
theorem ff_app (xs ys : List L) : ff xs ++ ff ys = ff (xs ++ ys) := List.map_append.symm
theorem ff_snoc (xs : List L) (a : L) : ff xs ++ [φ a] = ff (xs ++ [a]) := by simp [ff]
theorem cmp_ne_of (x y : D) (hx : ∀ ns, x ≠ .scr ns) (p : pln 8 x = true) (q : pln 8 y = true) : cmpD .ne x y = some (!eqD x y) := by
  have h : cmpD .ne x y = if pln 8 x && pln 8 y then some (!eqD x y) else none := by
    simp only [cmpD]
    unfold neD
    split
    · exact absurd rfl (hx _)
    · rfl
  rw [h, p, q]; rfl
theorem cmp_eq_of (x y : D) (p : pln 8 x = true) (q : pln 8 y = true) : cmpD .eq x y = some (eqD x y) := by simp only [cmpD, p, q, Bool.and_self, if_true]
theorem cmp_eq_f (a b : L) : cmpD .eq (φ a) (φ b) = some (decide (a = b)) := by rw [cmp_eq_of _ _ (pln_f 8 a) (pln_f 8 b), eqD_f]
theorem cmp_ne_f (a b : L) : cmpD .ne (φ a) (φ b) = some (!decide (a = b)) := by rw [cmp_ne_of _ _ (fun ns h => by cases h) (pln_f 8 a) (pln_f 8 b), eqD_f]
theorem cmp_eq_fl (a b : List L) : cmpD .eq (fl a) (fl b) = some (decide (a = b)) := by rw [cmp_eq_of _ _ (pln_fl 7 a) (pln_fl 7 b), eqD_fl]
theorem cmp_ne_fl (a b : List L) : cmpD .ne (fl a) (fl b) = some (!decide (a = b)) := by rw [cmp_ne_of _ _ (fun ns h => by cases h) (pln_fl 7 a) (pln_fl 7 b), eqD_fl]
theorem any_f : ∀ (xs : List L) (a : L), (ff xs).any (fun y => eqD y (φ a)) = decide (a ∈ xs)
  | [], a => by simp [ff]
  | x :: xs, a => by
    have := any_f xs a
    simp only [ff, List.map_cons, List.any_cons, eqD_f] at *
    rw [this]
    by_cases h : x = a
    · subst h; simp
    · have h' : a ≠ x := fun z => h z.symm
      simp [h, h', List.mem_cons]
theorem cmp_in_f (a : L) (xs : List L) : cmpD .isin (φ a) (fl xs) = some (decide (a ∈ xs)) := by
  simp only [cmpD, inD, pln_f, plnL_f, Bool.and_self, if_true, any_f]
theorem cmp_notin_f (a : L) (xs : List L) : cmpD .notin (φ a) (fl xs) = some (!decide (a ∈ xs)) := by
  have := cmp_in_f a xs
  simp only [cmpD] at *
  rw [this]; rfl
theorem len_fl (xs : List L) : b1D .len (fl xs) = some (.int xs.length) := by simp only [b1D, ff_len]
theorem isstr_f (a : L) : isTy .str (φ a) = some true := id rfl
theorem isint_f (a : L) : isTy .int (φ a) = some false := id rfl
theorem islist_fl (xs : List L) : isTy .list (fl xs) = some true := id rfl
theorem islist_lst (xs : List D) : isTy .list (.lst xs) = some true := id rfl
theorem len_f (a : L) : b1D .len (φ a) = some (.int 1) := by
  simp only [φ, b1D]
  rw [if_pos (show (lt a).length ≤ cap from (by decide : 1 ≤ cap))]; rfl
theorem in_letters : ∀ a : L, strHas (lt a) "abcdefghij" = true := by decide +kernel
theorem cmp_in_letters (a : L) : cmpD .isin (φ a) (.str "abcdefghij") = some true := by
  show some (strHas (lt a) "abcdefghij") = some true
  rw [in_letters]
theorem dr_f (g : G) (a : L) : dr g (φ a) = φ a := id rfl
theorem scal_f (g : G) (a : L) : kScal (φ a) g = .ok (φ a) g := id rfl
theorem getSs_f : ∀ xs : List L, getSs (ff xs) = some (xs.map lt)
  | [] => rfl
  | x :: xs => by
    have := getSs_f xs
    simp only [ff, List.map_cons, getSs, φ] at *
    rw [this]; rfl
theorem lt_inj {a b : L} (h : lt a = lt b) : a = b := by
  have := lt_beq a b
  rw [h, beq_self_eq_true] at this
  simpa using this.symm
theorem dd_nodup' {α : Type} [DecidableEq α] (xs : List α) (nd : xs.Nodup) : dd [] xs = xs := by
  rw [dd_nodup xs [] (by simp) nd]; rfl
theorem nodup_map_lt {xs : List L} (h : xs.Nodup) : (xs.map lt).Nodup := List.Pairwise.map lt (fun a b hab z => hab (lt_inj z)) h
theorem lenset_fl (xs : List L) (h : xs.length ≤ 1000) (nd : xs.Nodup) : b1D .lenset (fl xs) = some (.int xs.length) := by
  cases xs with
  | nil => rfl
  | cons x r =>
    have e : getIs (ff (x :: r)) = none := rfl
    simp only [b1D, dcount, e, getSs_f]
    rw [if_pos (by rw [List.length_map]; exact h), dd_nodup' _ (nodup_map_lt nd)]
    simp
/-- letters as one text -/
def txt (xs : List L) : Str := ⟨(xs.map fun i => 97 + i.val).toArray⟩
theorem letters_txt : ("abcdefghij" : Str) = txt (List.finRange 10) := by decide +kernel
theorem chars_txt (xs : List L) : chars (txt xs) = ff xs := by
  unfold chars txt ff
  rw [List.toList_toArray, List.map_map]; rfl
theorem letters_eq : chars "abcdefghij" = ff (List.finRange 10) := by rw [letters_txt, chars_txt]
theorem txt_len (xs : List L) : (txt xs).length = xs.length := by simp [txt, Str.length]
theorem cut_txt (xs : List L) (k : Int) (h0 : 0 ≤ k) (hl : xs.length ≤ 1000) : cutE (.str (txt xs)) none (some k) = some (.str (txt (xs.take k.toNat))) := by
  simp only [cutE]
  rw [if_pos (by rw [txt_len]; exact Nat.le_trans hl (by decide)), cut_to _ _ h0]
  simp only [txt, List.map_take]
theorem list_txt (xs : List L) (hl : xs.length ≤ 1000) : b1D .list (.str (txt xs)) = some (fl xs) := by
  simp only [b1D]
  rw [if_pos (by rw [txt_len]; exact Nat.le_trans hl (by decide)), chars_txt]
/-- a short list of the first so many letters -/
structure Short (xs : List L) (m : Nat) : Prop where
  nd : xs.Nodup
  pos : 1 ≤ xs.length
  most : xs.length ≤ 6
  below : ∀ x ∈ xs, x.val < m
theorem idx_f : ∀ (xs : List L) (v : L), v ∈ xs → idxD (ff xs) (φ v) = some (xs.idxOf v)
  | [], v, h => by simp at h
  | x :: xs, v, h => by
    show idxD (φ x :: ff xs) (φ v) = _
    simp only [idxD, eqD_f]
    by_cases hx : x = v
    · subst hx; simp
    · rcases List.mem_cons.mp h with h | h
      · exact absurd h.symm hx
      · rw [idx_f xs v h, List.idxOf_cons]; have hx' : (x == v) = false := by simpa using hx
        simp [hx, hx']
theorem me_index_f (xs : List L) (v : L) (h : v ∈ xs) : meD .index (fl xs) (φ v) = some (.int ((xs.idxOf v : Nat) : Int)) := by
  simp only [meD, pln_f, plnL_f, Bool.and_self, if_true, idx_f xs v h, Option.map_some]
theorem sub_fl (xs : List L) (i : Int) (h0 : 0 ≤ i) (h1 : i < xs.length) (x : L) (e : xs[i.toNat]? = some x) : subD (fl xs) i = some (φ x) := by
  simp only [subD]
  rw [at_some _ _ h0 (by rw [ff_len]; exact h1), ff, List.getElem?_map, e]; rfl
theorem sub_last (xs : List D) (x : D) : subD (.lst (xs ++ [x])) (-1) = some x := by
  simp only [subD, L2.atI, L2.ixN, List.length_append, List.length_singleton]
  rw [if_neg (by omega), if_pos (by omega)]
  simp only [Option.bind_some]
  rw [show (-1 + ((xs.length + 1 : Nat) : Int)).toNat = xs.length by omega]
  simp
theorem pick_any (ns : List Int) (t : Int) (ds : List D) (hn : 0 < ns.length) (h0 : 0 < ds.length) (h1 : ds.length < 1000000) : ∃ d ns' t', F__law_pick [.cell 1, .lst ds] (dw ns t) = .ok d (dw ns' t') ∧ d ∈ ds ∧ ns'.length = ns.length := by
  obtain ⟨v, ns', t', e, hv, hl⟩ := draw_ok ns t ds.length hn (by omega) (by omega)
  have hi : v.toNat < ds.length := by omega
  refine ⟨ds[v.toNat], ns', t', ?_, List.getElem_mem _, hl⟩
  have s : subD (.lst ds) v = some ds[v.toNat] := by
    simp only [subD]
    rw [at_some _ _ hv.1 hv.2, List.getElem?_eq_getElem hi]
  unfold F__law_pick b__law_pick
  simp only [pvL, mkFn, gt, st, wipeE, List.length_cons, List.length_nil, List.replicate, List.map_cons, List.map_nil, List.cons_append, List.nil_append, List.append_nil, List.getD_cons_zero, List.getD_cons_succ, Nat.reduceAdd, Nat.reduceSub, Nat.reduceLT, if_true, ite_true, ite_false, reduceIte, Option.map_some, len_lst, e, s]
theorem pick_f (ns : List Int) (t : Int) (xs : List L) (hn : 0 < ns.length) (h0 : 0 < xs.length) (h1 : xs.length ≤ 1000) : ∃ x ns' t', F__law_pick [.cell 1, fl xs] (dw ns t) = .ok (φ x) (dw ns' t') ∧ x ∈ xs ∧ ns'.length = ns.length := by
  obtain ⟨d, ns', t', e, hd, hl⟩ := pick_any ns t (ff xs) hn (by rw [ff_len]; exact h0) (by rw [ff_len]; omega)
  obtain ⟨x, hx, rfl⟩ := List.mem_map.mp hd
  exact ⟨x, ns', t', e, hx, hl⟩
theorem erase_f : ∀ (xs : List L) (v : L), v ∈ xs → (ff xs).eraseIdx (xs.idxOf v) = ff (xs.erase v)
  | [], v, h => by simp at h
  | x :: xs, v, h => by
    show (φ x :: ff xs).eraseIdx _ = _
    rw [List.idxOf_cons]
    by_cases hx : x = v
    · subst hx; simp
    · have hx' : (x == v) = false := by simpa using hx
      rcases List.mem_cons.mp h with h | h
      · exact absurd h.symm hx
      · rw [hx', List.erase_cons_tail (by simpa using hx)]
        show (φ x :: ff xs).eraseIdx (xs.idxOf v + 1) = _
        rw [List.eraseIdx_cons_succ, erase_f xs v h]; rfl
theorem rmv_f (xs : List L) (v : L) (h : v ∈ xs) : rmvD (ff xs) (φ v) = some (ff (xs.erase v)) := by
  have a : (ff xs).all isStr = true := by simp [ff, φ, isStr]
  unfold rmvD
  rw [a, show isStr (φ v) = true from rfl, Bool.and_self, Bool.or_true, if_pos rfl, idx_f xs v h, Option.map_some, erase_f xs v h]
end Tv.P

set_option linter.all false
set_option maxRecDepth 100000
/-! Plain laws: short lists. -/
namespace Tv.P
open PySem
theorem ite_andP (c : Prop) [Decidable c] (b : Bool) : (if c then b else false) = (decide c && b) := by by_cases h : c <;> simp [h]
theorem ite_orP (c : Prop) [Decidable c] (b : Bool) : (if c then true else b) = (decide c || b) := by by_cases h : c <;> simp [h]
theorem pfL : type_of% (And.intro @ite_andP (And.intro @ite_orP (And.intro @Bool.decide_eq_true (And.intro @dr_f (And.intro @scal_f (And.intro @cmp_eq_f (And.intro @cmp_ne_f (And.intro @cmp_eq_fl (And.intro @cmp_ne_fl (And.intro @cmp_in_f (And.intro @cmp_notin_f (And.intro @len_fl (And.intro @len_f (And.intro @isstr_f (And.intro @isint_f (And.intro @islist_fl (And.intro @cmp_in_letters (And.intro @letters_eq (And.intro @ff_len (And.intro @ff_snoc (@ff_app))))))))))))))))))))) := And.intro @ite_andP (And.intro @ite_orP (And.intro @Bool.decide_eq_true (And.intro @dr_f (And.intro @scal_f (And.intro @cmp_eq_f (And.intro @cmp_ne_f (And.intro @cmp_eq_fl (And.intro @cmp_ne_fl (And.intro @cmp_in_f (And.intro @cmp_notin_f (And.intro @len_fl (And.intro @len_f (And.intro @isstr_f (And.intro @isint_f (And.intro @islist_fl (And.intro @cmp_in_letters (And.intro @letters_eq (And.intro @ff_len (And.intro @ff_snoc (@ff_app))))))))))))))))))))
theorem cut_first (m : Nat) : cutE (.str "abcdefghij") none (some (m : Int)) = some (.str (txt ((List.finRange 10).take m))) := by
  rw [letters_txt, cut_txt _ _ (by omega) (by simp)]; rfl
theorem ff_nil : D.lst [] = fl [] := id rfl
theorem law_short_ok (ns : List Int) (t : Int) (m : Nat) (hn : 0 < ns.length) (h1 : 1 ≤ m) (h10 : m ≤ 10) : ∃ xs ns' t', F__law_short [.cell 1, .int m] (dw ns t) = .ok (fl xs) (dw ns' t') ∧ Short xs m ∧ ns'.length = ns.length := by
  obtain ⟨v, n1, t1, e1, hv, l1⟩ := draw_ok ns t (if (m : Int) < 6 then (m : Int) else 6) hn (by split <;> omega) (by split <;> omega)
  have hv6 : v < 6 ∧ v < m := by have := hv.2; split at this <;> omega
  have fl0 : ((List.finRange 10).take m).length = m := by simp; omega
  unfold F__law_short b__law_short
  simp only [pvL, mkFn, gt, st, wipeE, List.length_cons, List.length_nil, List.replicate, List.map_cons, List.map_nil, List.cons_append, List.nil_append, List.append_nil, List.getD_cons_zero, List.getD_cons_succ, Nat.reduceAdd, Nat.reduceSub, Nat.reduceLT, if_true, ite_true, ite_false, reduceIte, Option.map_some, pfL, cut_first, list_txt ((List.finRange 10).take m) (by omega), e1, rngD_ii 0 (1 + v) (by omega)]
  obtain ⟨e', g', q1, left, found, u, ns', t', q2, q3, q4, q5, q6⟩ := for_inv (f := forF [F__law_draw, F__law_pick] (.one 4) (.cons (.app 3 (.callb 1 (.cons (.var 0) (.cons (.bvar 2) .nil)))) (.cons (.rmv 2 (.sub (.bvar 3) (.neg (.lit (.int 1))))) .nil))) (φ := D.int)
    (J := fun done e g => ∃ left found u ns' t', e = [some (.cell 1), some (.int m), some (fl left), some (fl found), u] ∧ g = dw ns' t' ∧ ns'.length = ns.length ∧ found.length = done.length ∧ (found ++ left).Perm ((List.finRange 10).take m))
    (rngI 0 (1 + v)) [] [some (.cell 1), some (.int m), some (fl ((List.finRange 10).take m)), some (il []), none] (dw n1 t1) ⟨_, [], none, n1, t1, rfl, rfl, l1, rfl, by simp⟩ (by
      rintro d x rest e g hd ⟨left, found, u, ns', t', rfl, rfl, q4, q5, q6⟩
      have hdl : d.length < (1 + v).toNat := by
        have := congrArg List.length hd
        rw [List.nil_append, rngI_len] at this
        simp at this; omega
      have hl := q6.length_eq
      rw [List.length_append, fl0] at hl
      obtain ⟨y, n2, t2, e2, hy, l2⟩ := pick_f ns' t' left (by omega) (by omega) (by omega)
      refine ⟨_, dw n2 t2, .inl ?_, left.erase y, found ++ [y], some (.int x), n2, t2, rfl, rfl, by omega, by rw [List.length_append, List.length_append, q5]; rfl, ?_⟩
      · have sl : subD (.lst (ff (found ++ [y]))) (-1) = some (φ y) := by rw [← ff_snoc]; exact sub_last _ _
        simp only [pvL, mkFn, gt, st, wipeE, List.length_cons, List.length_nil, List.replicate, List.map_cons, List.map_nil, List.cons_append, List.nil_append, List.append_nil, List.getD_cons_zero, List.getD_cons_succ, Nat.reduceAdd, Nat.reduceSub, Nat.reduceLT, if_true, ite_true, ite_false, reduceIte, Option.map_some, pfL, e2, scal, app_ok (show (ff found).length ≤ 1000 by rw [ff_len]; omega), sl, kRmv, rmv_f left y hy]
      · have h7 : (found ++ [y] ++ left.erase y).Perm (found ++ left) := by
          rw [List.append_assoc]
          exact List.Perm.append_left _ (List.perm_cons_erase hy).symm
        exact h7.trans q6)
  rw [show ii (rngI 0 (1 + v)) = (rngI 0 (1 + v)).map .int from rfl, q1]
  subst q2 q3
  refine ⟨found, ns', t', by simp only [pvL, mkFn, gt, st, wipeE, List.length_cons, List.length_nil, List.replicate, List.map_cons, List.map_nil, List.cons_append, List.nil_append, List.append_nil, List.getD_cons_zero, List.getD_cons_succ, Nat.reduceAdd, Nat.reduceSub, Nat.reduceLT, if_true, ite_true, ite_false, reduceIte, Option.map_some, pfL], ⟨?_, ?_, ?_, ?_⟩, q4⟩
  · have nd : ((List.finRange 10).take m).Nodup := (List.nodup_finRange 10).sublist (List.take_sublist _ _)
    exact (List.nodup_append.mp (q6.nodup_iff.mpr nd)).1
  · rw [q5, List.nil_append, rngI_len]; omega
  · rw [q5, List.nil_append, rngI_len]; omega
  · intro x hx
    have hm : x ∈ (List.finRange 10).take m := q6.mem_iff.mp (List.mem_append_left _ hx)
    obtain ⟨i, hi, e⟩ := List.getElem_of_mem hm
    have hi' : i < m := by rw [fl0] at hi; exact hi
    rw [List.getElem_take, List.getElem_finRange] at e
    rw [← e]
    exact hi'
section
variable {xs ys : List L} {m : Nat}
theorem is_short_ok (g : G) (h : Short xs m) : F_is_short [fl xs] g = .ok (.bl true) g := by
  have hp := h.pos
  have hm := h.most
  have h1 : (1 : Int) ≤ xs.length := by omega
  have h6 : (xs.length : Int) ≤ 6 := by omega
  unfold F_is_short b_is_short
  simp only [pvL, mkFn, gt, st, wipeE, List.length_cons, List.length_nil, List.replicate, List.map_cons, List.map_nil, List.cons_append, List.nil_append, List.append_nil, List.getD_cons_zero, List.getD_cons_succ, Nat.reduceAdd, Nat.reduceSub, Nat.reduceLT, if_true, ite_true, ite_false, reduceIte, Option.map_some, pfL, h1, h6]
  rw [show ff xs = xs.map φ from rfl, c_all (φ := φ) (fun _ => .bl true) (by omega)]
  · have e : b1D .all (.lst (xs.map fun _ => D.bl true)) = some (.bl true) := by
      have := all_bl (xs.map fun _ => true)
      rw [List.map_map] at this
      rw [show (xs.map fun _ => D.bl true) = xs.map (D.bl ∘ fun _ => true) from rfl, this]
      simp
    simp only [pvL, mkFn, gt, st, wipeE, List.length_cons, List.length_nil, List.replicate, List.map_cons, List.map_nil, List.cons_append, List.nil_append, List.append_nil, List.getD_cons_zero, List.getD_cons_succ, Nat.reduceAdd, Nat.reduceSub, Nat.reduceLT, if_true, ite_true, ite_false, reduceIte, Option.map_some, pfL, e, show D.lst (xs.map φ) = fl xs from rfl, lenset_fl xs (by omega) h.nd]
  · intro x hx
    simp only [pvL, mkFn, gt, st, wipeE, List.length_cons, List.length_nil, List.replicate, List.map_cons, List.map_nil, List.cons_append, List.nil_append, List.append_nil, List.getD_cons_zero, List.getD_cons_succ, Nat.reduceAdd, Nat.reduceSub, Nat.reduceLT, if_true, ite_true, ite_false, reduceIte, Option.map_some, pfL]
theorem check_short_ok (g : G) (h : Short xs m) : F_check_short [fl xs] g = .ok .non g := by
  unfold F_check_short b_check_short
  simp only [pvL, mkFn, gt, st, wipeE, List.length_cons, List.length_nil, List.replicate, List.map_cons, List.map_nil, List.cons_append, List.nil_append, List.append_nil, List.getD_cons_zero, List.getD_cons_succ, Nat.reduceAdd, Nat.reduceSub, Nat.reduceLT, if_true, ite_true, ite_false, reduceIte, Option.map_some, pfL, is_short_ok g h]
end
/-- a list of lists of letters -/
def lf (xss : List (List L)) : List D := xss.map fl
theorem lf_len (xss : List (List L)) : (lf xss).length = xss.length := List.length_map ..
structure Shorts (xss : List (List L)) (m : Nat) : Prop where
  all : ∀ xs ∈ xss, Short xs m
  pos : 1 ≤ xss.length
  most : xss.length ≤ 6
theorem comp_gen {α β : Type} {f : D → G → Res (Option D)} {φ : α → D} {ψ : β → D} {g : G} (p : α → Bool) (h : α → β) (xs : List α) (H : ∀ x ∈ xs, f (φ x) g = .ok (if p x = true then some (ψ (h x)) else none) g) : compGo f (xs.map φ) g = .ok (((xs.filter p).map h).map ψ) g := by
  rw [comp_fm (φ := φ) (f := f) (g := g) (r := fun x => if p x = true then some (ψ (h x)) else none) xs H]
  congr 1
  clear H
  induction xs with
  | nil => rfl
  | cons x xs ih =>
    by_cases hp : p x = true
    · simp only [List.filterMap_cons, List.filter_cons, hp, if_true, List.map_cons, ih]
    · simp only [Bool.not_eq_true] at hp
      simp only [List.filterMap_cons, List.filter_cons, hp, Bool.false_eq_true, if_false, ih]
/-- any comprehension -/
theorem c_gen {α β : Type} {f : D → G → Res (Option D)} {φ : α → D} {ψ : β → D} {g : G} {xs : List α} (p : α → Bool) (h : α → β) (hl : xs.length ≤ 1000) (H : ∀ x ∈ xs, f (φ x) g = .ok (if p x = true then some (ψ (h x)) else none) g) : (nox (compGo f (xs.map φ) g)).bind mkL = .ok (.lst (((xs.filter p).map h).map ψ)) g := by
  rw [comp_gen p h xs H, nox_ok, bind_ok', mkL_ok (by rw [List.length_map, List.length_map]; exact Nat.le_trans (List.length_filter_le _ _) hl)]
theorem c_sel {α : Type} {f : D → G → Res (Option D)} {φ : α → D} {g : G} {xs : List α} (p : α → Bool) (hl : xs.length ≤ 1000) (H : ∀ x ∈ xs, f (φ x) g = .ok (if p x = true then some (φ x) else none) g) : (nox (compGo f (xs.map φ) g)).bind mkL = .ok (.lst ((xs.filter p).map φ)) g := by
  rw [c_gen (ψ := φ) p (fun x => x) hl H, List.map_id']
section
variable {xss : List (List L)} {m : Nat}
theorem check_lists_ok (g : G) (h : Shorts xss m) : F_check_lists [.lst (lf xss)] g = .ok .non g := by
  have hp := h.pos
  have hm := h.most
  have h1 : (1 : Int) ≤ xss.length := by omega
  have h6 : (xss.length : Int) ≤ 6 := by omega
  unfold F_check_lists b_check_lists
  simp only [pvL, mkFn, gt, st, wipeE, List.length_cons, List.length_nil, List.replicate, List.map_cons, List.map_nil, List.cons_append, List.nil_append, List.append_nil, List.getD_cons_zero, List.getD_cons_succ, Nat.reduceAdd, Nat.reduceSub, Nat.reduceLT, if_true, ite_true, ite_false, reduceIte, Option.map_some, pfL, islist_lst, len_lst, lf_len, h1, h6]
  obtain ⟨e', g', q1, u, q2, q3⟩ := for_chk (f := forF [F_check_short] (.one 1) (.cons (.exp (.call 0 (.cons (.var 1) .nil))) .nil)) (φ := fl)
    (J := fun e g' => ∃ u, e = [some (.lst (lf xss)), u] ∧ g' = g) xss [some (.lst (lf xss)), none] g ⟨none, rfl, rfl⟩ (by
      rintro xs hx e g' ⟨u, rfl, rfl⟩
      refine ⟨_, _, ?_, some (fl xs), rfl, rfl⟩
      simp only [pvL, mkFn, gt, st, wipeE, List.length_cons, List.length_nil, List.replicate, List.map_cons, List.map_nil, List.cons_append, List.nil_append, List.append_nil, List.getD_cons_zero, List.getD_cons_succ, Nat.reduceAdd, Nat.reduceSub, Nat.reduceLT, if_true, ite_true, ite_false, reduceIte, Option.map_some, pfL, check_short_ok g' (h.all xs hx)])
  rw [show forGo _ (lf xss) _ g = forGo _ (xss.map fl) _ g from rfl, q1]
  subst q2 q3
  simp only [pvL, mkFn, gt, st, wipeE, List.length_cons, List.length_nil, List.replicate, List.map_cons, List.map_nil, List.cons_append, List.nil_append, List.append_nil, List.getD_cons_zero, List.getD_cons_succ, Nat.reduceAdd, Nat.reduceSub, Nat.reduceLT, if_true, ite_true, ite_false, reduceIte, Option.map_some, pfL]
/-- the letters that are listed -/
def evr (xss : List (List L)) : List L := (List.finRange 10).filter fun a => xss.any fun xs => decide (a ∈ xs)
theorem letters_of_ok (g : G) (h : Shorts xss m) : F_letters_of [.lst (lf xss)] g = .ok (fl (evr xss)) g := by
  have hm := h.most
  unfold F_letters_of b_letters_of
  simp only [pvL, mkFn, gt, st, wipeE, List.length_cons, List.length_nil, List.replicate, List.map_cons, List.map_nil, List.cons_append, List.nil_append, List.append_nil, List.getD_cons_zero, List.getD_cons_succ, Nat.reduceAdd, Nat.reduceSub, Nat.reduceLT, if_true, ite_true, ite_false, reduceIte, Option.map_some, pfL]
  rw [show ff (List.finRange 10) = (List.finRange 10).map φ from rfl, c_sel (φ := φ) (fun a => xss.any fun xs => decide (a ∈ xs)) (by simp)]
  · simp only [pvL, mkFn, gt, st, wipeE, List.length_cons, List.length_nil, List.replicate, List.map_cons, List.map_nil, List.cons_append, List.nil_append, List.append_nil, List.getD_cons_zero, List.getD_cons_succ, Nat.reduceAdd, Nat.reduceSub, Nat.reduceLT, if_true, ite_true, ite_false, reduceIte, Option.map_some, pfL]; rfl
  · intro a ha
    simp only [pvL, mkFn, gt, st, wipeE, List.length_cons, List.length_nil, List.replicate, List.map_cons, List.map_nil, List.cons_append, List.nil_append, List.append_nil, List.getD_cons_zero, List.getD_cons_succ, Nat.reduceAdd, Nat.reduceSub, Nat.reduceLT, if_true, ite_true, ite_false, reduceIte, Option.map_some, pfL]
    rw [show lf xss = xss.map fl from rfl, c_all (φ := fl) (fun xs => .bl (decide (a ∈ xs))) (by omega)]
    · have e : b1D .any (.lst (xss.map fun xs => D.bl (decide (a ∈ xs)))) = some (.bl (xss.any fun xs => decide (a ∈ xs))) := by
        have := any_bl (xss.map fun xs => decide (a ∈ xs))
        rw [List.map_map] at this
        rw [show (xss.map fun xs => D.bl (decide (a ∈ xs))) = xss.map (D.bl ∘ fun xs => decide (a ∈ xs)) from rfl, this, List.any_map]; rfl
      simp only [pvL, mkFn, gt, st, wipeE, List.length_cons, List.length_nil, List.replicate, List.map_cons, List.map_nil, List.cons_append, List.nil_append, List.append_nil, List.getD_cons_zero, List.getD_cons_succ, Nat.reduceAdd, Nat.reduceSub, Nat.reduceLT, if_true, ite_true, ite_false, reduceIte, Option.map_some, pfL, e]
    · intro xs hx
      simp only [pvL, mkFn, gt, st, wipeE, List.length_cons, List.length_nil, List.replicate, List.map_cons, List.map_nil, List.cons_append, List.nil_append, List.append_nil, List.getD_cons_zero, List.getD_cons_succ, Nat.reduceAdd, Nat.reduceSub, Nat.reduceLT, if_true, ite_true, ite_false, reduceIte, Option.map_some, pfL]
/-- a letter's place -/
def plc (xs : List L) (a : L) : Int := if a ∈ xs then ((xs.idxOf a : Nat) : Int) + 1 else (xs.length : Int) + 1
theorem place_in_ok (g : G) (xs : List L) (a : L) : F_place_in [fl xs, φ a] g = .ok (.int (plc xs a)) g := by
  unfold F_place_in b_place_in
  by_cases h : a ∈ xs
  · simp only [pvL, mkFn, gt, st, wipeE, List.length_cons, List.length_nil, List.replicate, List.map_cons, List.map_nil, List.cons_append, List.nil_append, List.append_nil, List.getD_cons_zero, List.getD_cons_succ, Nat.reduceAdd, Nat.reduceSub, Nat.reduceLT, if_true, ite_true, ite_false, reduceIte, Option.map_some, pfL, h, me_index_f xs a h, plc]
    rw [Int.add_comm]
  · simp only [pvL, mkFn, gt, st, wipeE, List.length_cons, List.length_nil, List.replicate, List.map_cons, List.map_nil, List.cons_append, List.nil_append, List.append_nil, List.getD_cons_zero, List.getD_cons_succ, Nat.reduceAdd, Nat.reduceSub, Nat.reduceLT, if_true, ite_true, ite_false, reduceIte, Option.map_some, pfL, h, plc]
theorem law_place_ok (g : G) (xs : List L) (a : L) : F__law_place [fl xs, φ a] g = .ok (.int (plc xs a)) g := by
  unfold F__law_place b__law_place
  by_cases h : a ∈ xs
  · simp only [pvL, mkFn, gt, st, wipeE, List.length_cons, List.length_nil, List.replicate, List.map_cons, List.map_nil, List.cons_append, List.nil_append, List.append_nil, List.getD_cons_zero, List.getD_cons_succ, Nat.reduceAdd, Nat.reduceSub, Nat.reduceLT, if_true, ite_true, ite_false, reduceIte, Option.map_some, pfL, h, me_index_f xs a h, plc]
  · simp only [pvL, mkFn, gt, st, wipeE, List.length_cons, List.length_nil, List.replicate, List.map_cons, List.map_nil, List.cons_append, List.nil_append, List.append_nil, List.getD_cons_zero, List.getD_cons_succ, Nat.reduceAdd, Nat.reduceSub, Nat.reduceLT, if_true, ite_true, ite_false, reduceIte, Option.map_some, pfL, h, plc]
/-- how many lists have a ahead of b -/
def ahd (xss : List (List L)) (a b : L) : Nat := (xss.filter fun xs => decide (plc xs a < plc xs b)).length
theorem comp_ahd {f : D → G → Res (Option D)} {g : G} (a b : L) (d : D) (hl : xss.length ≤ 1000) (H : ∀ xs ∈ xss, f (fl xs) g = .ok (if decide (plc xs a < plc xs b) = true then some d else none) g) : ∃ ds, (nox (compGo f (lf xss) g)).bind mkL = .ok (.lst ds) g ∧ ds.length = ahd xss a b := by
  have := c_gen (φ := fl) (ψ := fun _ : Unit => d) (f := f) (g := g) (fun xs => decide (plc xs a < plc xs b)) (fun _ => ()) hl H
  exact ⟨_, this, by rw [List.length_map, List.length_map]; rfl⟩
theorem beats_ok (g : G) (h : Shorts xss m) (a b : L) (hab : a ≠ b) (ha : a ∈ evr xss) (hb : b ∈ evr xss) : F_beats [.lst (lf xss), φ a, φ b] g = .ok (.tup [.int (ahd xss a b : Nat), .int (ahd xss b a : Nat)]) g := by
  have hm := h.most
  unfold F_beats b_beats
  simp only [pvL, mkFn, gt, st, wipeE, List.length_cons, List.length_nil, List.replicate, List.map_cons, List.map_nil, List.cons_append, List.nil_append, List.append_nil, List.getD_cons_zero, List.getD_cons_succ, Nat.reduceAdd, Nat.reduceSub, Nat.reduceLT, if_true, ite_true, ite_false, reduceIte, Option.map_some, pfL, check_lists_ok g h, hab, letters_of_ok g h, ha, hb]
  obtain ⟨ds, e1, e2⟩ := comp_ahd (xss := xss) (g := g) a b (.int 1) (by omega) (f := compF [F_place_in, F_letters_of, F_check_lists] (.lit (.int 1)) (.one 4) (.opt (.cmp .lt (.call 0 (.cons (.var 4) (.cons (.var 1) .nil))) (.call 0 (.cons (.var 4) (.cons (.var 2) .nil))))) [4] [some (.lst (lf xss)), some (φ a), some (φ b), none, none]) (by
    intro xs hx
    simp only [pvL, mkFn, gt, st, wipeE, List.length_cons, List.length_nil, List.replicate, List.map_cons, List.map_nil, List.cons_append, List.nil_append, List.append_nil, List.getD_cons_zero, List.getD_cons_succ, Nat.reduceAdd, Nat.reduceSub, Nat.reduceLT, if_true, ite_true, ite_false, reduceIte, Option.map_some, pfL, place_in_ok])
  rw [e1]
  simp only [pvL, mkFn, gt, st, wipeE, List.length_cons, List.length_nil, List.replicate, List.map_cons, List.map_nil, List.cons_append, List.nil_append, List.append_nil, List.getD_cons_zero, List.getD_cons_succ, Nat.reduceAdd, Nat.reduceSub, Nat.reduceLT, if_true, ite_true, ite_false, reduceIte, Option.map_some, pfL, len_lst, e2]
  obtain ⟨ds2, e3, e4⟩ := comp_ahd (xss := xss) (g := g) b a (.int 1) (by omega) (f := compF [F_place_in, F_letters_of, F_check_lists] (.lit (.int 1)) (.one 4) (.opt (.cmp .lt (.call 0 (.cons (.var 4) (.cons (.var 2) .nil))) (.call 0 (.cons (.var 4) (.cons (.var 1) .nil))))) [4] [some (.lst (lf xss)), some (φ a), some (φ b), some (.int (ahd xss a b : Nat)), none]) (by
    intro xs hx
    simp only [pvL, mkFn, gt, st, wipeE, List.length_cons, List.length_nil, List.replicate, List.map_cons, List.map_nil, List.cons_append, List.nil_append, List.append_nil, List.getD_cons_zero, List.getD_cons_succ, Nat.reduceAdd, Nat.reduceSub, Nat.reduceLT, if_true, ite_true, ite_false, reduceIte, Option.map_some, pfL, place_in_ok])
  rw [e3]
  simp only [pvL, mkFn, gt, st, wipeE, List.length_cons, List.length_nil, List.replicate, List.map_cons, List.map_nil, List.cons_append, List.nil_append, List.append_nil, List.getD_cons_zero, List.getD_cons_succ, Nat.reduceAdd, Nat.reduceSub, Nat.reduceLT, if_true, ite_true, ite_false, reduceIte, Option.map_some, pfL, len_lst, e4]
end
end Tv.P

set_option linter.all false
set_option maxRecDepth 100000
/-! Plain laws: who is ahead. -/
namespace Tv.P
open PySem
theorem eqL_bl : ∀ (xs ys : List Bool), eqL (xs.map .bl) (ys.map .bl) = decide (xs = ys)
  | [], [] => by simp [eqL]
  | [], y :: ys => by simp [eqL]
  | x :: xs, [] => by simp [eqL]
  | x :: xs, y :: ys => by
    have := eqL_bl xs ys
    simp only [List.map_cons, eqL, eqD] at *
    rw [this]
    by_cases h : x = y <;> by_cases h2 : xs = ys <;> simp [h, h2]
theorem plnL_bl (n : Nat) : ∀ xs : List Bool, plnL n (xs.map .bl) = true
  | [] => by cases n <;> rfl
  | x :: xs => by
    have := plnL_bl n xs
    simp only [List.map_cons, plnL] at *
    rw [this]; cases n <;> rfl
theorem any_bls : ∀ (xs : List Bool) (c : Bool), (xs.map D.bl).any (fun y => eqD y (.bl c)) = decide (c ∈ xs)
  | [], c => by simp
  | x :: xs, c => by
    have := any_bls xs c
    simp only [List.map_cons, List.any_cons, eqD] at *
    rw [this]
    cases x <;> cases c <;> simp
theorem cmp_in_bl (c : Bool) (xs : List Bool) : cmpD .isin (.bl c) (.lst (xs.map .bl)) = some (decide (c ∈ xs)) := by
  have h : pln 8 (.bl c) = true := rfl
  simp only [cmpD, inD, h, plnL_bl, Bool.and_self, if_true, any_bls]
theorem eqL_nil (xs : List D) : eqL xs [] = xs.isEmpty := by cases xs <;> simp [eqL]
theorem cmp_eq_nil (xs : List D) (p : plnL 7 xs = true) : cmpD .eq (.lst xs) (il []) = some xs.isEmpty := by
  have h : pln 8 (.lst xs) = true := by simp only [pln]; exact p
  have h2 : pln 8 (.lst []) = true := rfl
  show cmpD .eq (.lst xs) (.lst []) = _
  rw [cmp_eq_of _ _ h h2]
  show some (eqL xs []) = _
  rw [eqL_nil]
theorem cmp_ne_nil (xs : List D) (p : plnL 7 xs = true) : cmpD .ne (.lst xs) (il []) = some (!xs.isEmpty) := by
  have h : pln 8 (.lst xs) = true := by simp only [pln]; exact p
  have h2 : pln 8 (.lst []) = true := rfl
  show cmpD .ne (.lst xs) (.lst []) = _
  rw [cmp_ne_of _ _ (fun ns h => by cases h) h h2]
  show some (!eqL xs []) = _
  rw [eqL_nil]
theorem plnL_lf (n : Nat) : ∀ (xss : List (List L)), plnL (n + 1) (lf xss) = true
  | [] => rfl
  | x :: xs => by
    have := plnL_lf n xs
    simp only [lf, List.map_cons, plnL] at *
    rw [this, pln_fl]; rfl
theorem fl_two (a b : L) : D.lst [φ a, φ b] = fl [a, b] := id rfl
theorem fl_one (a : L) : D.lst [φ a] = fl [a] := id rfl
theorem lf_one (xs : List L) : D.lst [fl xs] = .lst (lf [xs]) := id rfl
section
variable {xs : List L} {xss : List (List L)} {m : Nat} {a b : L}
theorem idx_lt (h : a ∈ xs) : xs.idxOf a < xs.length := List.idxOf_lt_length_of_mem h
theorem idx_ne (ha : a ∈ xs) (hb : b ∈ xs) (hab : a ≠ b) : xs.idxOf a ≠ xs.idxOf b := fun e => hab (by
  have h1 := List.getElem_idxOf (idx_lt ha)
  have h2 := List.getElem_idxOf (idx_lt hb)
  rw [← h1, ← h2]
  congr 1)
theorem plc_ne (hab : a ≠ b) (h : a ∈ xs ∨ b ∈ xs) : plc xs a ≠ plc xs b := by
  unfold plc
  by_cases ha : a ∈ xs
  · have l1 := idx_lt ha
    by_cases hb : b ∈ xs
    · have := idx_ne ha hb hab
      rw [if_pos ha, if_pos hb]; omega
    · rw [if_pos ha, if_neg hb]; omega
  · have hb : b ∈ xs := h.resolve_left ha
    have l1 := idx_lt hb
    rw [if_neg ha, if_pos hb]; omega
theorem plc_same (ha : a ∉ xs) (hb : b ∉ xs) : plc xs a = plc xs b := by
  unfold plc
  rw [if_neg ha, if_neg hb]
theorem is_known_ok (g : G) : F_is_known [fl xs, φ a, φ b] g = .ok (.bl (decide (a ∈ xs) || decide (b ∈ xs))) g := by
  unfold F_is_known b_is_known
  simp only [pvL, mkFn, gt, st, wipeE, List.length_cons, List.length_nil, List.replicate, List.map_cons, List.map_nil, List.cons_append, List.nil_append, List.append_nil, List.getD_cons_zero, List.getD_cons_succ, Nat.reduceAdd, Nat.reduceSub, Nat.reduceLT, if_true, ite_true, ite_false, reduceIte, Option.map_some, pfL]
theorem is_ahead_ok (g : G) (h : a ∈ xs ∨ b ∈ xs) : F_is_ahead [fl xs, φ a, φ b] g = .ok (.bl (decide (plc xs a < plc xs b))) g := by
  unfold F_is_ahead b_is_ahead
  by_cases ha : a ∈ xs
  · by_cases hb : b ∈ xs
    · simp only [pvL, mkFn, gt, st, wipeE, List.length_cons, List.length_nil, List.replicate, List.map_cons, List.map_nil, List.cons_append, List.nil_append, List.append_nil, List.getD_cons_zero, List.getD_cons_succ, Nat.reduceAdd, Nat.reduceSub, Nat.reduceLT, if_true, ite_true, ite_false, reduceIte, Option.map_some, pfL, ha, hb, me_index_f xs a ha, me_index_f xs b hb, plc]
      congr 2
      exact decide_eq_decide.mpr (by omega)
    · have := idx_lt ha
      have c : ((xs.idxOf a : Nat) : Int) + 1 < (xs.length : Int) + 1 := by omega
      simp only [pvL, mkFn, gt, st, wipeE, List.length_cons, List.length_nil, List.replicate, List.map_cons, List.map_nil, List.cons_append, List.nil_append, List.append_nil, List.getD_cons_zero, List.getD_cons_succ, Nat.reduceAdd, Nat.reduceSub, Nat.reduceLT, if_true, ite_true, ite_false, reduceIte, Option.map_some, pfL, ha, hb, plc, c]
  · have hb : b ∈ xs := h.resolve_left ha
    have := idx_lt hb
    have c : ¬ ((xs.length : Int) + 1 < ((xs.idxOf b : Nat) : Int) + 1) := by omega
    simp only [pvL, mkFn, gt, st, wipeE, List.length_cons, List.length_nil, List.replicate, List.map_cons, List.map_nil, List.cons_append, List.nil_append, List.append_nil, List.getD_cons_zero, List.getD_cons_succ, Nat.reduceAdd, Nat.reduceSub, Nat.reduceLT, if_true, ite_true, ite_false, reduceIte, Option.map_some, pfL, ha, hb, plc, c]
def told (xss : List (List L)) (a b : L) : List Bool := (xss.filter fun xs => decide (a ∈ xs) || decide (b ∈ xs)).map fun xs => decide (plc xs a < plc xs b)
theorem ahd_pos : 0 < ahd xss a b ↔ ∃ xs ∈ xss, plc xs a < plc xs b := by
  unfold ahd
  rw [List.length_pos_iff_exists_mem]
  simp [List.mem_filter]
theorem known_of (h : plc xs a < plc xs b) : a ∈ xs ∨ b ∈ xs := by
  by_cases ha : a ∈ xs
  · exact .inl ha
  · by_cases hb : b ∈ xs
    · exact .inr hb
    · have := plc_same ha hb; omega
theorem true_told : true ∈ told xss a b ↔ 0 < ahd xss a b := by
  rw [ahd_pos]
  unfold told
  simp only [List.mem_map, List.mem_filter, Bool.or_eq_true, decide_eq_true_eq]
  exact ⟨fun ⟨xs, h1, h2⟩ => ⟨xs, h1.1, h2⟩, fun ⟨xs, h1, h2⟩ => ⟨xs, ⟨h1, known_of h2⟩, h2⟩⟩
theorem false_told (hab : a ≠ b) : false ∈ told xss a b ↔ 0 < ahd xss b a := by
  rw [ahd_pos]
  unfold told
  simp only [List.mem_map, List.mem_filter, Bool.or_eq_true, decide_eq_true_eq, decide_eq_false_iff_not]
  constructor
  · rintro ⟨xs, h1, h2⟩
    have := plc_ne hab h1.2
    exact ⟨xs, h1.1, by omega⟩
  · rintro ⟨xs, h1, h2⟩
    exact ⟨xs, ⟨h1, (known_of h2).symm⟩, by omega⟩
def sureS (xss : List (List L)) (a b : L) : Str :=
  if 0 < ahd xss a b + ahd xss b a ∧ (ahd xss a b = 0 ∨ ahd xss b a = 0) then (if ahd xss b a = 0 then "ahead" else "behind") else "unknown"
theorem mem_bools (l : List Bool) (h : l ≠ []) : true ∈ l ∨ false ∈ l := by
  cases l with
  | nil => exact absurd rfl h
  | cons x r => cases x <;> simp
theorem sure_order_ok (g : G) (h : Shorts xss m) (hab : a ≠ b) : F_sure_order [.lst (lf xss), φ a, φ b] g = .ok (.str (sureS xss a b)) g := by
  have hp := h.pos
  have hm := h.most
  have h1 : (1 : Int) ≤ xss.length := by omega
  have h6 : (xss.length : Int) ≤ 6 := by omega
  have two : Short [a, b] 10 := ⟨by simp [hab], by simp, by simp, fun x _ => x.isLt⟩
  unfold F_sure_order b_sure_order
  simp only [pvL, mkFn, gt, st, wipeE, List.length_cons, List.length_nil, List.replicate, List.map_cons, List.map_nil, List.cons_append, List.nil_append, List.append_nil, List.getD_cons_zero, List.getD_cons_succ, Nat.reduceAdd, Nat.reduceSub, Nat.reduceLT, if_true, ite_true, ite_false, reduceIte, Option.map_some, pfL, islist_lst, len_lst, lf_len, h1, h6]
  obtain ⟨e', g', q1, u, q2, q3⟩ := for_chk (f := forF [F_is_known, F_is_ahead, F_is_short, F_check_short] (.one 3) (.cons (.exp (.call 3 (.cons (.var 3) .nil))) .nil)) (φ := fl)
    (J := fun e g' => ∃ u, e = [some (.lst (lf xss)), some (φ a), some (φ b), u, none] ∧ g' = g) xss [some (.lst (lf xss)), some (φ a), some (φ b), none, none] g ⟨none, rfl, rfl⟩ (by
      rintro xs hx e g' ⟨u, rfl, rfl⟩
      refine ⟨_, _, ?_, some (fl xs), rfl, rfl⟩
      simp only [pvL, mkFn, gt, st, wipeE, List.length_cons, List.length_nil, List.replicate, List.map_cons, List.map_nil, List.cons_append, List.nil_append, List.append_nil, List.getD_cons_zero, List.getD_cons_succ, Nat.reduceAdd, Nat.reduceSub, Nat.reduceLT, if_true, ite_true, ite_false, reduceIte, Option.map_some, pfL, check_short_ok g' (h.all xs hx)])
  rw [show forGo _ (lf xss) _ g = forGo _ (xss.map fl) _ g from rfl, q1]
  subst q2 q3
  simp only [pvL, mkFn, gt, st, wipeE, List.length_cons, List.length_nil, List.replicate, List.map_cons, List.map_nil, List.cons_append, List.nil_append, List.append_nil, List.getD_cons_zero, List.getD_cons_succ, Nat.reduceAdd, Nat.reduceSub, Nat.reduceLT, if_true, ite_true, ite_false, reduceIte, Option.map_some, pfL, fl_two, is_short_ok g' two]
  rw [show lf xss = xss.map fl from rfl, c_gen (φ := fl) (ψ := D.bl) (fun xs => decide (a ∈ xs) || decide (b ∈ xs)) (fun xs => decide (plc xs a < plc xs b)) (by omega)]
  · rw [show (xss.filter fun xs => decide (a ∈ xs) || decide (b ∈ xs)).map (fun xs => decide (plc xs a < plc xs b)) = told xss a b from rfl]
    have t1 := true_told (xss := xss) (a := a) (b := b)
    have t2 := false_told (xss := xss) hab
    have t3 := mem_bools (told xss a b)
    generalize told xss a b = l at *
    simp only [pvL, mkFn, gt, st, wipeE, List.length_cons, List.length_nil, List.replicate, List.map_cons, List.map_nil, List.cons_append, List.nil_append, List.append_nil, List.getD_cons_zero, List.getD_cons_succ, Nat.reduceAdd, Nat.reduceSub, Nat.reduceLT, if_true, ite_true, ite_false, reduceIte, Option.map_some, pfL, cmp_eq_nil _ (plnL_bl 7 l), cmp_in_bl, List.isEmpty_map]
    cases l with
    | nil =>
      have c : ¬ (0 < ahd xss a b + ahd xss b a ∧ (ahd xss a b = 0 ∨ ahd xss b a = 0)) := by
        have z1 : ahd xss a b = 0 := by simpa using t1
        have z2 : ahd xss b a = 0 := by simpa using t2
        omega
      simp only [pvL, mkFn, gt, st, wipeE, List.length_cons, List.length_nil, List.replicate, List.map_cons, List.map_nil, List.cons_append, List.nil_append, List.append_nil, List.getD_cons_zero, List.getD_cons_succ, Nat.reduceAdd, Nat.reduceSub, Nat.reduceLT, if_true, ite_true, ite_false, reduceIte, Option.map_some, pfL, List.isEmpty_nil, sureS, c]
    | cons x r =>
      simp only [pvL, mkFn, gt, st, wipeE, List.length_cons, List.length_nil, List.replicate, List.map_cons, List.map_nil, List.cons_append, List.nil_append, List.append_nil, List.getD_cons_zero, List.getD_cons_succ, Nat.reduceAdd, Nat.reduceSub, Nat.reduceLT, if_true, ite_true, ite_false, reduceIte, Option.map_some, pfL, List.isEmpty_cons]
      by_cases c1 : true ∈ x :: r
      · by_cases c2 : false ∈ x :: r
        · have z1 := t1.mp c1
          have z2 := t2.mp c2
          have c : ¬ (0 < ahd xss a b + ahd xss b a ∧ (ahd xss a b = 0 ∨ ahd xss b a = 0)) := by omega
          simp only [pvL, mkFn, gt, st, wipeE, List.length_cons, List.length_nil, List.replicate, List.map_cons, List.map_nil, List.cons_append, List.nil_append, List.append_nil, List.getD_cons_zero, List.getD_cons_succ, Nat.reduceAdd, Nat.reduceSub, Nat.reduceLT, if_true, ite_true, ite_false, reduceIte, Option.map_some, pfL, c1, c2, sureS, c]
        · have z1 := t1.mp c1
          have z2 : ahd xss b a = 0 := by
            have := mt t2.mpr c2; omega
          have c : 0 < ahd xss a b + ahd xss b a ∧ (ahd xss a b = 0 ∨ ahd xss b a = 0) := by omega
          have hx : x = true := by cases x with
            | true => rfl
            | false => exact absurd List.mem_cons_self c2
          subst hx
          have s0 : subD (.lst (D.bl true :: r.map D.bl)) 0 = some (.bl true) := sub0 _ _
          have hs : sureS xss a b = "ahead" := by unfold sureS; rw [if_pos c, if_pos z2]
          simp only [pvL, mkFn, gt, st, wipeE, List.length_cons, List.length_nil, List.replicate, List.map_cons, List.map_nil, List.cons_append, List.nil_append, List.append_nil, List.getD_cons_zero, List.getD_cons_succ, Nat.reduceAdd, Nat.reduceSub, Nat.reduceLT, if_true, ite_true, ite_false, reduceIte, Option.map_some, pfL, c1, c2, s0, hs]
      · have c2 : false ∈ x :: r := (t3 (by simp)).resolve_left c1
        have z1 : ahd xss a b = 0 := by
          have := mt t1.mpr c1; omega
        have z2 := t2.mp c2
        have c : 0 < ahd xss a b + ahd xss b a ∧ (ahd xss a b = 0 ∨ ahd xss b a = 0) := by omega
        have hx : x = false := by cases x with
          | false => rfl
          | true => exact absurd List.mem_cons_self c1
        have z3 : ¬ ahd xss b a = 0 := by omega
        subst hx
        have s0 : subD (.lst (D.bl false :: r.map D.bl)) 0 = some (.bl false) := sub0 _ _
        have hs : sureS xss a b = "behind" := by unfold sureS; rw [if_pos c, if_neg z3]
        simp only [pvL, mkFn, gt, st, wipeE, List.length_cons, List.length_nil, List.replicate, List.map_cons, List.map_nil, List.cons_append, List.nil_append, List.append_nil, List.getD_cons_zero, List.getD_cons_succ, Nat.reduceAdd, Nat.reduceSub, Nat.reduceLT, if_true, ite_true, ite_false, reduceIte, Option.map_some, pfL, c1, c2, s0, hs]
  · intro xs hx
    simp only [pvL, mkFn, gt, st, wipeE, List.length_cons, List.length_nil, List.replicate, List.map_cons, List.map_nil, List.cons_append, List.nil_append, List.append_nil, List.getD_cons_zero, List.getD_cons_succ, Nat.reduceAdd, Nat.reduceSub, Nat.reduceLT, if_true, ite_true, ite_false, reduceIte, Option.map_some, pfL, is_known_ok]
    by_cases hk : a ∈ xs ∨ b ∈ xs
    · simp only [pvL, mkFn, gt, st, wipeE, List.length_cons, List.length_nil, List.replicate, List.map_cons, List.map_nil, List.cons_append, List.nil_append, List.append_nil, List.getD_cons_zero, List.getD_cons_succ, Nat.reduceAdd, Nat.reduceSub, Nat.reduceLT, if_true, ite_true, ite_false, reduceIte, Option.map_some, pfL, is_ahead_ok _ hk]
    · have k1 : a ∉ xs := fun z => hk (.inl z)
      have k2 : b ∉ xs := fun z => hk (.inr z)
      simp only [pvL, mkFn, gt, st, wipeE, List.length_cons, List.length_nil, List.replicate, List.map_cons, List.map_nil, List.cons_append, List.nil_append, List.append_nil, List.getD_cons_zero, List.getD_cons_succ, Nat.reduceAdd, Nat.reduceSub, Nat.reduceLT, if_true, ite_true, ite_false, reduceIte, Option.map_some, pfL, k1, k2]
/-- the letters that none is ahead of more often than behind -/
def topp (xss : List (List L)) : List L := (evr xss).filter fun a => !(evr xss).any fun b => decide (ahd xss a b < ahd xss b a)
theorem unbeaten_ok (g : G) (h : Shorts xss m) : F_unbeaten [.lst (lf xss)] g = .ok (fl (topp xss)) g := by
  have hm := h.most
  have e10 : (evr xss).length ≤ 10 := Nat.le_trans (List.length_filter_le _ _) (by simp)
  unfold F_unbeaten b_unbeaten
  simp only [pvL, mkFn, gt, st, wipeE, List.length_cons, List.length_nil, List.replicate, List.map_cons, List.map_nil, List.cons_append, List.nil_append, List.append_nil, List.getD_cons_zero, List.getD_cons_succ, Nat.reduceAdd, Nat.reduceSub, Nat.reduceLT, if_true, ite_true, ite_false, reduceIte, Option.map_some, pfL, check_lists_ok g h, letters_of_ok g h]
  obtain ⟨e', g', q1, u2, u3, u4, u5, u7, q2, q3⟩ := for_inv (f := forF [F_letters_of, F_place_in, F_check_lists] (.one 2) (.cons (.asg 3 (.lit (.bl false))) (.cons (.forr (.one 4) (.iof (.call 0 (.cons (.var 0) .nil))) (.cons (.asg 5 (.b1 .len (.comp (.lit (.int 1)) (.one 6) (.iof (.var 0)) (.opt (.cmp .lt (.call 1 (.cons (.var 6) (.cons (.var 4) .nil))) (.call 1 (.cons (.var 6) (.cons (.var 2) .nil))))) [6]))) (.cons (.asg 7 (.b1 .len (.comp (.lit (.int 1)) (.one 6) (.iof (.var 0)) (.opt (.cmp .lt (.call 1 (.cons (.var 6) (.cons (.var 2) .nil))) (.call 1 (.cons (.var 6) (.cons (.var 4) .nil))))) [6]))) (.cons (.asg 3 (.ors (.cons (.var 3) (.cons (.cmp .gt (.var 5) (.var 7)) .nil)))) .nil)))) (.cons (.ife (.not (.var 3)) (.cons (.app 1 (.var 2)) .nil) .nil) .nil)))) (φ := φ)
    (J := fun done e g' => ∃ u2 u3 u4 u5 u7, e = [some (.lst (lf xss)), some (fl (done.filter fun a => !(evr xss).any fun b => decide (ahd xss a b < ahd xss b a))), u2, u3, u4, u5, none, u7] ∧ g' = g)
    (evr xss) [] [some (.lst (lf xss)), some (il []), none, none, none, none, none, none] g ⟨none, none, none, none, none, rfl, rfl⟩ (by
      rintro d a rest e g' hd ⟨u2, u3, u4, u5, u7, rfl, rfl⟩
      have hdl : d.length ≤ 10 := by
        have := congrArg List.length hd
        rw [List.nil_append, List.length_append, List.length_cons] at this; omega
      obtain ⟨e2, g2, r1, v4, v5, v7, r2, r3⟩ := for_inv (f := forF [F_letters_of, F_place_in, F_check_lists] (.one 4) (.cons (.asg 5 (.b1 .len (.comp (.lit (.int 1)) (.one 6) (.iof (.var 0)) (.opt (.cmp .lt (.call 1 (.cons (.var 6) (.cons (.var 4) .nil))) (.call 1 (.cons (.var 6) (.cons (.var 2) .nil))))) [6]))) (.cons (.asg 7 (.b1 .len (.comp (.lit (.int 1)) (.one 6) (.iof (.var 0)) (.opt (.cmp .lt (.call 1 (.cons (.var 6) (.cons (.var 2) .nil))) (.call 1 (.cons (.var 6) (.cons (.var 4) .nil))))) [6]))) (.cons (.asg 3 (.ors (.cons (.var 3) (.cons (.cmp .gt (.var 5) (.var 7)) .nil)))) .nil)))) (φ := φ)
        (J := fun done e g2 => ∃ v4 v5 v7, e = [some (.lst (lf xss)), some (fl (d.filter fun a => !(evr xss).any fun b => decide (ahd xss a b < ahd xss b a))), some (φ a), some (.bl (done.any fun b => decide (ahd xss a b < ahd xss b a))), v4, v5, none, v7] ∧ g2 = g')
        (evr xss) [] [some (.lst (lf xss)), some (fl (d.filter fun a => !(evr xss).any fun b => decide (ahd xss a b < ahd xss b a))), some (φ a), some (.bl false), u4, u5, none, u7] g' ⟨u4, u5, u7, rfl, rfl⟩ (by
          rintro d2 b rest2 e g2 hd2 ⟨v4, v5, v7, rfl, rfl⟩
          refine ⟨_, _, .inl ?_, some (φ b), some (.int (ahd xss b a : Nat)), some (.int (ahd xss a b : Nat)), rfl, rfl⟩
          obtain ⟨ds, e1, e2⟩ := comp_ahd (xss := xss) (g := g2) b a (.int 1) (by omega) (f := compF [F_letters_of, F_place_in, F_check_lists] (.lit (.int 1)) (.one 6) (.opt (.cmp .lt (.call 1 (.cons (.var 6) (.cons (.var 4) .nil))) (.call 1 (.cons (.var 6) (.cons (.var 2) .nil))))) [6] [some (.lst (lf xss)), some (fl (d.filter fun a => !(evr xss).any fun b => decide (ahd xss a b < ahd xss b a))), some (φ a), some (.bl (d2.any fun b => decide (ahd xss a b < ahd xss b a))), some (φ b), v5, none, v7]) (by
            intro xs hx
            simp only [pvL, mkFn, gt, st, wipeE, List.length_cons, List.length_nil, List.replicate, List.map_cons, List.map_nil, List.cons_append, List.nil_append, List.append_nil, List.getD_cons_zero, List.getD_cons_succ, Nat.reduceAdd, Nat.reduceSub, Nat.reduceLT, if_true, ite_true, ite_false, reduceIte, Option.map_some, pfL, place_in_ok])
          simp only [pvL, mkFn, gt, st, wipeE, List.length_cons, List.length_nil, List.replicate, List.map_cons, List.map_nil, List.cons_append, List.nil_append, List.append_nil, List.getD_cons_zero, List.getD_cons_succ, Nat.reduceAdd, Nat.reduceSub, Nat.reduceLT, if_true, ite_true, ite_false, reduceIte, Option.map_some, pfL, e1, len_lst, e2]
          obtain ⟨ds2, e3, e4⟩ := comp_ahd (xss := xss) (g := g2) a b (.int 1) (by omega) (f := compF [F_letters_of, F_place_in, F_check_lists] (.lit (.int 1)) (.one 6) (.opt (.cmp .lt (.call 1 (.cons (.var 6) (.cons (.var 2) .nil))) (.call 1 (.cons (.var 6) (.cons (.var 4) .nil))))) [6] [some (.lst (lf xss)), some (fl (d.filter fun a => !(evr xss).any fun b => decide (ahd xss a b < ahd xss b a))), some (φ a), some (.bl (d2.any fun b => decide (ahd xss a b < ahd xss b a))), some (φ b), some (.int (ahd xss b a : Nat)), none, v7]) (by
            intro xs hx
            simp only [pvL, mkFn, gt, st, wipeE, List.length_cons, List.length_nil, List.replicate, List.map_cons, List.map_nil, List.cons_append, List.nil_append, List.append_nil, List.getD_cons_zero, List.getD_cons_succ, Nat.reduceAdd, Nat.reduceSub, Nat.reduceLT, if_true, ite_true, ite_false, reduceIte, Option.map_some, pfL, place_in_ok])
          simp only [pvL, mkFn, gt, st, wipeE, List.length_cons, List.length_nil, List.replicate, List.map_cons, List.map_nil, List.cons_append, List.nil_append, List.append_nil, List.getD_cons_zero, List.getD_cons_succ, Nat.reduceAdd, Nat.reduceSub, Nat.reduceLT, if_true, ite_true, ite_false, reduceIte, Option.map_some, pfL, e3, len_lst, e4, List.any_append, List.any_cons, List.any_nil]
          congr 8
          exact decide_eq_decide.mpr (by omega))
      refine ⟨_, _, .inl ?_, some (φ a), some (.bl ((evr xss).any fun b => decide (ahd xss a b < ahd xss b a))), v4, v5, v7, rfl, rfl⟩
      simp only [pvL, mkFn, gt, st, wipeE, List.length_cons, List.length_nil, List.replicate, List.map_cons, List.map_nil, List.cons_append, List.nil_append, List.append_nil, List.getD_cons_zero, List.getD_cons_succ, Nat.reduceAdd, Nat.reduceSub, Nat.reduceLT, if_true, ite_true, ite_false, reduceIte, Option.map_some, pfL, letters_of_ok g' h]
      rw [show ff (evr xss) = (evr xss).map φ from rfl, r1]
      subst r2 r3
      have hl : (ff (d.filter fun a => !(evr xss).any fun b => decide (ahd xss a b < ahd xss b a))).length ≤ 1000 := by
        rw [ff_len]; exact Nat.le_trans (List.length_filter_le _ _) (by omega)
      cases hc : (evr xss).any fun b => decide (ahd xss a b < ahd xss b a) with
      | true => simp only [pvL, mkFn, gt, st, wipeE, List.length_cons, List.length_nil, List.replicate, List.map_cons, List.map_nil, List.cons_append, List.nil_append, List.append_nil, List.getD_cons_zero, List.getD_cons_succ, Nat.reduceAdd, Nat.reduceSub, Nat.reduceLT, if_true, ite_true, ite_false, reduceIte, Option.map_some, pfL, hc, List.filter_append, List.filter_cons, List.filter_nil]
      | false => simp only [pvL, mkFn, gt, st, wipeE, List.length_cons, List.length_nil, List.replicate, List.map_cons, List.map_nil, List.cons_append, List.nil_append, List.append_nil, List.getD_cons_zero, List.getD_cons_succ, Nat.reduceAdd, Nat.reduceSub, Nat.reduceLT, if_true, ite_true, ite_false, reduceIte, Option.map_some, pfL, hc, app_ok hl, List.filter_append, List.filter_cons, List.filter_nil])
  rw [show ff (evr xss) = (evr xss).map φ from rfl, q1]
  subst q2 q3
  simp only [pvL, mkFn, gt, st, wipeE, List.length_cons, List.length_nil, List.replicate, List.map_cons, List.map_nil, List.cons_append, List.nil_append, List.append_nil, List.getD_cons_zero, List.getD_cons_succ, Nat.reduceAdd, Nat.reduceSub, Nat.reduceLT, if_true, ite_true, ite_false, reduceIte, Option.map_some, pfL, topp]
end
end Tv.P

set_option linter.all false
set_option maxRecDepth 100000
/-! Plain laws: exceptions, readers; draws beside other cells. -/
namespace Tv.P
open PySem
section
variable (T : List Fn)
def kCmpc2 (o : Cop) (x y : D) (g : G) : Res D := okB (cmpD o (dr g x) (dr g y)) g
def kCmpc1 (o : Cop) (b : Ex) (e : Env) (x : D) (g : G) : Res D := (evE T b e g).bind (kCmpc2 o x)
def kFld (i : Nat) (x : D) (g : G) : Res D := match x with
    | .ins fs => okR fs[i]? g
    | _ => .stuck
def kMc2 (n : Nat) (fs : List D) (xs : List D) (g : G) : Res D := (T.getD n fun _ _ => .stuck) (.ins fs :: xs) g
def kMc (n : Nat) (es : Ex) (e : Env) (x : D) (g : G) : Res D := match x with
    | .ins fs => (evEs T es e g).bind (kMc2 T n fs)
    | _ => .stuck
def popG (n : Nat) (g : G) : Res D := match g[n]? with
      | some (.lst xs) => match xs[xs.length - 1]? with
        | some d => .ok d (g.set n (.lst xs.dropLast))
        | none => .stuck
      | _ => .stuck
def kPop (x : D) (g : G) : Res D := match x with
    | .cell n => popG n g
    | _ => .stuck
def kLen2 (d : D) (g : G) : Res D := match d with
      | .int i => if 0 ≤ i ∧ i < 2 ^ 62 then .ok (.int i) g else .stuck
      | _ => .stuck
def kLen (n : Nat) (x : D) (g : G) : Res D := match x with
    | .ins fs => (nox ((T.getD n fun _ _ => .stuck) [.ins fs] g)).bind kLen2
    | _ => .stuck
def kIsX (c : Nat) (x : D) (g : G) : Res D := match x with
    | .exc k => if k < 6 then .ok (.bl (exSub k c)) g else .stuck
    | _ => .stuck
def kTry (i j : Nat) (o : Out) : Out := match o with
    | .err k e g => if k < 6 then .nx (Tv.st (Tv.st (Tv.st e i (some (.exc k))) j (some (.exc k))) i none) g else .stuck
    | o => o
variable {T} {e : Env} {g : G}
theorem e_cmpc (o : Cop) (a b : Ex) : evE T (.cmpc o a b) e g = (evE T a e g).bind (kCmpc1 T o b e) := id rfl
theorem e_cmpc1 (o : Cop) (b : Ex) (x : D) : kCmpc1 T o b e x g = (evE T b e g).bind (kCmpc2 o x) := id rfl
theorem e_cmpc2 (o : Cop) (x y : D) : kCmpc2 o x y g = okB (cmpD o (dr g x) (dr g y)) g := id rfl
theorem e_fld (a : Ex) (i : Nat) : evE T (.fld a i) e g = (evE T a e g).bind (kFld i) := id rfl
theorem e_fld1 (i : Nat) (fs : List D) : kFld i (.ins fs) g = okR fs[i]? g := id rfl
theorem e_mcall (n : Nat) (a es : Ex) : evE T (.mcall n a es) e g = (evE T a e g).bind (kMc T n es e) := id rfl
theorem e_mc1 (n : Nat) (es : Ex) (fs : List D) : kMc T n es e (.ins fs) g = (evEs T es e g).bind (kMc2 T n fs) := id rfl
theorem e_mc2 (n : Nat) (fs xs : List D) : kMc2 T n fs xs g = (T.getD n fun _ _ => .stuck) (.ins fs :: xs) g := id rfl
theorem e_make (n : Nat) (es : Ex) : evE T (.make n es) e g = (evEs T es e g).bind (kCall T n) := id rfl
theorem e_popc (a : Ex) : evE T (.popc a) e g = (evE T a e g).bind kPop := id rfl
theorem e_pop1 (n : Nat) : kPop (.cell n) g = popG n g := id rfl
theorem e_lenr (n : Nat) (a : Ex) : evE T (.lenr n a) e g = (evE T a e g).bind (kLen T n) := id rfl
theorem e_len1 (n : Nat) (fs : List D) : kLen T n (.ins fs) g = (nox ((T.getD n fun _ _ => .stuck) [.ins fs] g)).bind kLen2 := id rfl
theorem e_isX (c : Nat) (a : Ex) : evE T (.isX c a) e g = (evE T a e g).bind (kIsX c) := id rfl
theorem e_meC (b : Ex) (xs : List D) : kMe T .count b e (.lst xs) g = (evE T b e g).bind (kMe2 .count (.lst xs)) := id rfl
theorem e_meJ (b : Ex) (s : Str) : kMe T .join b e (.str s) g = (evE T b e g).bind (kMe2 .join (.str s)) := id rfl
theorem e_meS (b : Ex) (s : Str) : kMe T .split b e (.str s) g = (evE T b e g).bind (kMe2 .split (.str s)) := id rfl
theorem e_isn1' (d : D) : kIsn d g = .ok (.bl (isNon d)) g := id rfl
theorem e_nisn1' (d : D) : kNisn d g = .ok (.bl (!isNon d)) g := id rfl
theorem non_non : isNon .non = true := id rfl
theorem non_exc (k : Nat) : isNon (.exc k) = false := id rfl
theorem non_int (k : Int) : isNon (.int k) = false := id rfl
theorem non_lst (k : List D) : isNon (.lst k) = false := id rfl
theorem s_try' (b : St) (i j : Nat) : evS T (.tryc b i j) e g = kTry i j (evS T b e g) := id rfl
theorem s_tryN (i j : Nat) : kTry i j (.nx e g) = .nx e g := id rfl
theorem s_tryE (i j k : Nat) (h : k < 6) : kTry i j (.err k e g) = .nx (Tv.st (Tv.st (Tv.st e i (some (.exc k))) j (some (.exc k))) i none) g := by
  show (if k < 6 then _ else _) = _
  rw [if_pos h]
theorem s_raise' (c : Nat) : evS T (.raise c) e g = .err c e g := id rfl
theorem seq_err (c : Nat) (f : Env → G → Out) : (Out.err c e g).seq f = .err c e g := id rfl
theorem out_err {α : Type} (c : Nat) (f : α → G → Out) : (Res.err c g).out e f = .err c e g := id rfl
theorem bind_err {α β : Type} (c : Nat) (f : α → G → Res β) : (Res.err c g).bind f = .err c g := id rfl
end
/-- the name of an exception -/
def exN : Nat → Str | 0 => "list" | 1 => "number" | 2 => "row" | 3 => "short" | 4 => "text" | _ => "none"
theorem error_ok (g : G) (k : Nat) (h : k < 6) : F__law_error [.exc k] g = .ok (.str (exN k)) g := by
  match k, h with
  | 0, _ => kernel_rfl
  | 1, _ => kernel_rfl
  | 2, _ => kernel_rfl
  | 3, _ => kernel_rfl
  | 4, _ => kernel_rfl
  | 5, _ => kernel_rfl
/-- the draws beside other cells -/
def dwr (ns : List Int) (t : Int) (r : G) : G := .lst (ii ns) :: .lst [.cell 0, .int t] :: r
theorem dr_dwr1 (ns : List Int) (t : Int) (r : G) : dr (dwr ns t r) (.cell 1) = .lst [.cell 0, .int t] := rfl
theorem dr_dwr0 (ns : List Int) (t : Int) (r : G) : dr (dwr ns t r) (.cell 0) = il ns := rfl
theorem dwrg1 (ns : List Int) (t : Int) (r : G) : (dwr ns t r)[1]? = some (.lst [.cell 0, .int t]) := rfl
theorem dwrg0 (ns : List Int) (t : Int) (r : G) : (dwr ns t r)[0]? = some (.lst (ii ns)) := rfl
theorem set_dwr1 (ns : List Int) (t u : Int) (r : G) : (dwr ns t r).set 1 (.lst [.cell 0, .int u]) = dwr ns u r := rfl
theorem set_dwr0 (ns ms : List Int) (t : Int) (r : G) : (dwr ns t r).set 0 (.lst (ii ms)) = dwr ms t r := rfl
theorem draw_okR (ns : List Int) (t : Int) (r : G) (lim : Int) (hn : 0 < ns.length) (h0 : 0 < lim) (h1 : lim < 1000000) : ∃ v ns' t', F__law_draw [.cell 1, .int lim] (dwr ns t r) = .ok (.int v) (dwr ns' t' r) ∧ (0 ≤ v ∧ v < lim) ∧ ns'.length = ns.length := by
  have hp : (0 : Int) < ns.length := by omega
  have e0 : 0 ≤ (t + 1) % (ns.length : Int) := Int.emod_nonneg _ (by omega)
  have e1 : (t + 1) % (ns.length : Int) < ns.length := Int.emod_lt_of_pos _ hp
  unfold F__law_draw b__law_draw
  simp only [pevL, mkFn, gt, st, wipeE, List.length_cons, List.length_nil, List.replicate, List.map_cons, List.map_nil, List.cons_append, List.nil_append, List.append_nil, List.getD_cons_zero, List.getD_cons_succ, Nat.reduceAdd, Nat.reduceSub, Nat.reduceLT, if_true, ite_true, ite_false, reduceIte, Option.map_some, dr_dwr1, dr_dwr0, sub0, sub1, dwrg1, setAt1, set_dwr1, nolist, kSc3, bin_mod _ _ hp, sub_il _ _ e0 e1]
  generalize nth ns ((t + 1) % ↑ns.length) = c
  by_cases hc : (1000000000000000000 : Int) ≤ c
  · simp only [pevL, mkFn, gt, st, wipeE, List.length_cons, List.length_nil, List.replicate, List.map_cons, List.map_nil, List.cons_append, List.nil_append, List.append_nil, List.getD_cons_zero, List.getD_cons_succ, Nat.reduceAdd, Nat.reduceSub, Nat.reduceLT, if_true, ite_true, ite_false, reduceIte, Option.map_some, hc, bin_fdiv c lim ⟨h0, by omega⟩, bin_mod c lim h0, dwrg0, nolist, kSc3, setAt_ii ns _ (c / lim) e0 e1, set_dwr0]
    exact ⟨_, _, _, rfl, ⟨Int.emod_nonneg _ (by omega), Int.emod_lt_of_pos _ h0⟩, by simp⟩
  · have g1 : 0 ≤ (c + 104729 * (t + 1)) % 4294967291 := Int.emod_nonneg _ (by omega)
    have g2 : (c + 104729 * (t + 1)) % 4294967291 < 4294967291 := Int.emod_lt_of_pos _ (by omega)
    simp only [pevL, mkFn, gt, st, wipeE, List.length_cons, List.length_nil, List.replicate, List.map_cons, List.map_nil, List.cons_append, List.nil_append, List.append_nil, List.getD_cons_zero, List.getD_cons_succ, Nat.reduceAdd, Nat.reduceSub, Nat.reduceLT, if_true, ite_true, ite_false, reduceIte, Option.map_some, hc, dr_dwr1, sub1, bin_mod _ 4294967291 (by omega), bin_mod _ 4294967279 (by omega), bin_mod _ 4294967231 (by omega), bin_mod _ lim h0, bin_mul 104729 _ (.inl (by omega)), bin_mul _ 69621 (.inr (by omega)), bin_fdiv _ 64 (by omega), bin_fdiv _ 8 (by omega),
      bin_pow _ 5 ⟨by omega, by omega, (by omega : ((c + 104729 * (t + 1)) % 4294967291).natAbs < 2 ^ 64)⟩]
    exact ⟨_, _, _, rfl, ⟨Int.emod_nonneg _ (by omega), Int.emod_lt_of_pos _ h0⟩, rfl⟩
end Tv.P

set_option linter.all false
set_option maxRecDepth 100000
/-! Plain law of k11: the reader. -/
namespace Tv.P
open PySem
section
variable (T : List Fn)
def kAc6 (o : Bop) (e : Env) (m : Nat) (n a b : Int) (g : G) (c : Option Cl) : Out := match c with
    | some (.lst ys) => match binD o (.int a) (.int b) with
      | some y => match setAt ys n y with
        | some zs => .nx e (g.set m (.lst zs))
        | none => .stuck
      | none => .stuck
    | _ => .stuck
def kAc5 (o : Bop) (e : Env) (m : Nat) (n a : Int) (d : D) (g : G) : Out := match d with
    | .int b => kAc6 o e m n a b g g[m]?
    | _ => .stuck
def kAc4 (o : Bop) (x : Ex) (e : Env) (m : Nat) (n : Int) (g : G) (c : Option D) : Out := match c with
    | some (.int a) => (evE T x e g).out e (kAc5 o e m n a)
    | _ => .stuck
def kAc3 (o : Bop) (x : Ex) (e : Env) (m : Nat) (n : Int) (g : G) (c : Option Cl) : Out := match c with
    | some (.lst xs) => if 0 ≤ n then kAc4 T o x e m n g xs[n.toNat]? else .stuck
    | _ => .stuck
def kAc2 (o : Bop) (x : Ex) (e : Env) (c kd : D) (g : G) : Out := match c, kd with
    | .cell m, .int n => kAc3 T o x e m n g g[m]?
    | _, _ => .stuck
def kAc1 (k : Ex) (o : Bop) (x : Ex) (e : Env) (c : D) (g : G) : Out := (evE T k e g).out e (kAc2 T o x e c)
def kPc3 (e : Env) (m : Nat) (d : D) (g : G) (c : Option Cl) : Out := match c with
        | some (.lst xs) => if nolist d && decide (xs.length < cap) then .nx e (g.set m (.lst (xs ++ [d]))) else .stuck
        | _ => .stuck
def kPc2 (e : Env) (m : Nat) (d : D) (g : G) : Out := kPc3 e m d g g[m]?
def kPc1 (x : Ex) (e : Env) (m : Nat) (g : G) (c : Option Cl) : Out := match c with
      | some (.lst _) => (evE T x e g).out e (kPc2 e m)
      | _ => .stuck
def kPc (x : Ex) (e : Env) (c : D) (g : G) : Out := match c with
    | .cell m => kPc1 T x e m g g[m]?
    | _ => .stuck
variable {T} {e : Env} {g : G}
theorem s_appc' (a x : Ex) : evS T (.appc a x) e g = (evE T a e g).out e (kPc T x e) := by
  show ((evE T a e g).out e fun c g => match c with
    | .cell m => match g[m]? with
      | some (.lst _) => (evE T x e g).out e fun d g => match g[m]? with
        | some (.lst xs) => if nolist d && decide (xs.length < cap) then .nx e (g.set m (.lst (xs ++ [d]))) else .stuck
        | _ => .stuck
      | _ => .stuck
    | _ => .stuck) = _
  rfl
theorem s_pc (x : Ex) (m : Nat) : kPc T x e (.cell m) g = kPc1 T x e m g g[m]? := id rfl
theorem s_pc1 (x : Ex) (m : Nat) (ys : List D) : kPc1 T x e m g (some (.lst ys)) = (evE T x e g).out e (kPc2 e m) := id rfl
theorem s_pc2 (m : Nat) (d : D) : kPc2 e m d g = kPc3 e m d g g[m]? := id rfl
theorem s_pc3 (m : Nat) (i : Int) (xs : List D) (h : xs.length ≤ 1000) : kPc3 e m (.int i) g (some (.lst xs)) = .nx e (g.set m (.lst (xs ++ [.int i]))) := by
  show (if nolist (.int i) && decide (xs.length < cap) then _ else _) = _
  rw [decide_eq_true (Nat.lt_of_le_of_lt h (by decide))]; rfl
theorem s_augc' (a k x : Ex) (o : Bop) : evS T (.augc a k o x) e g = (evE T a e g).out e (kAc1 T k o x e) := by
  show ((evE T a e g).out e fun c g => (evE T k e g).out e fun kd g => match c, kd with
    | .cell m, .int n => match g[m]? with
      | some (.lst xs) => if 0 ≤ n then match xs[n.toNat]? with
          | some (.int a) => (evE T x e g).out e fun d g => match d, g[m]? with
            | .int b, some (.lst ys) => match binD o (.int a) (.int b) with
              | some y => match setAt ys n y with
                | some zs => .nx e (g.set m (.lst zs))
                | none => .stuck
              | none => .stuck
            | _, _ => .stuck
          | _ => .stuck
        else .stuck
      | _ => .stuck
    | _, _ => .stuck) = _
  congr 1
  funext c g
  unfold kAc1
  congr 1
  funext kd g
  unfold kAc2
  cases c <;> try rfl
  cases kd <;> try rfl
  rename_i m n
  simp only
  unfold kAc3
  cases g[m]? with
  | none => rfl
  | some cl =>
    cases cl with
    | ins _ _ => rfl
    | lst xs =>
      simp only
      split
      · unfold kAc4
        cases xs[n.toNat]? with
        | none => rfl
        | some z =>
          cases z <;> try rfl
          simp only
          congr 1
          funext d g
          unfold kAc5 kAc6
          cases d <;> try rfl
          simp only
          cases g[m]? with
          | none => rfl
          | some cl => cases cl <;> rfl
      · rfl
theorem s_ac1 (k : Ex) (o : Bop) (x : Ex) (c : D) : kAc1 T k o x e c g = (evE T k e g).out e (kAc2 T o x e c) := id rfl
theorem s_ac2 (o : Bop) (x : Ex) (m : Nat) (n : Int) : kAc2 T o x e (.cell m) (.int n) g = kAc3 T o x e m n g g[m]? := id rfl
theorem s_ac3 (o : Bop) (x : Ex) (m : Nat) (n : Int) (xs : List D) : kAc3 T o x e m n g (some (.lst xs)) = if 0 ≤ n then kAc4 T o x e m n g xs[n.toNat]? else .stuck := id rfl
theorem s_ac4 (o : Bop) (x : Ex) (m : Nat) (n a : Int) : kAc4 T o x e m n g (some (.int a)) = (evE T x e g).out e (kAc5 o e m n a) := id rfl
theorem s_ac5 (o : Bop) (m : Nat) (n a b : Int) : kAc5 o e m n a (.int b) g = kAc6 o e m n a b g g[m]? := id rfl
def kAc7 (e : Env) (m : Nat) (g : G) (z : Option (List D)) : Out := match z with
    | some zs => .nx e (g.set m (.lst zs))
    | none => .stuck
theorem s_ac6A (m : Nat) (n a b : Int) (ys : List D) : kAc6 .add e m n a b g (some (.lst ys)) = kAc7 e m g (setAt ys n (.int (a + b))) := id rfl
theorem s_ac6S (m : Nat) (n a b : Int) (ys : List D) : kAc6 .sub e m n a b g (some (.lst ys)) = kAc7 e m g (setAt ys n (.int (a - b))) := id rfl
theorem s_ac7 (m : Nat) (zs : List D) : kAc7 e m g (some zs) = .nx e (g.set m (.lst zs)) := id rfl
end
def cn (w : Int) (m : List Int) : Int := (m.count w : Nat)
def rf : List D := [.tup [.cell 2, .cell 3], .cell 4, .cell 5]
/-- the cells: the draws, the reader's lists, its depths, what was read; the law's depths -/
def gx (ns : List Int) (t : Int) (one other : List Int) (a b : Int) (m : List Int) (la lb : Int) : G := dwr ns t [.lst (ii one), .lst (ii other), .lst [.int a, .int b], .lst (ii m), .lst [.int la, .int lb]]
section
variable (ns : List Int) (t : Int) (one other : List Int) (a b : Int) (m : List Int) (la lb : Int)
theorem rf0 : rf[0]? = some (.tup [.cell 2, .cell 3]) := rfl
theorem rf1 : rf[1]? = some (.cell 4) := rfl
theorem rf2 : rf[2]? = some (.cell 5) := rfl
theorem gx2 : dr (gx ns t one other a b m la lb) (.cell 2) = il one := rfl
theorem gx3 : dr (gx ns t one other a b m la lb) (.cell 3) = il other := rfl
theorem gx4 : dr (gx ns t one other a b m la lb) (.cell 4) = .lst [.int a, .int b] := rfl
theorem gx5 : dr (gx ns t one other a b m la lb) (.cell 5) = il m := rfl
theorem gx6 : dr (gx ns t one other a b m la lb) (.cell 6) = .lst [.int la, .int lb] := rfl
theorem gg4 : (gx ns t one other a b m la lb)[4]? = some (.lst [.int a, .int b]) := rfl
theorem gg5 : (gx ns t one other a b m la lb)[5]? = some (.lst (ii m)) := rfl
theorem gg6 : (gx ns t one other a b m la lb)[6]? = some (.lst [.int la, .int lb]) := rfl
theorem gs4 (x y : Int) : (gx ns t one other a b m la lb).set 4 (.lst [.int x, .int y]) = gx ns t one other x y m la lb := rfl
theorem gs5 (k : List Int) : (gx ns t one other a b m la lb).set 5 (.lst (ii k)) = gx ns t one other a b k la lb := rfl
theorem gs6 (x y : Int) : (gx ns t one other a b m la lb).set 6 (.lst [.int x, .int y]) = gx ns t one other a b m x y := rfl
theorem two0 (x y : D) : ([x, y] : List D)[(0 : Int).toNat]? = some x := rfl
theorem two1 (x y : D) : ([x, y] : List D)[(1 : Int).toNat]? = some y := rfl
theorem set0 (x y d : D) : setAt [x, y] 0 d = some [d, y] := by simp [setAt]
end
variable {ns : List Int} {t : Int} {one other : List Int} {a b : Int} {m : List Int} {la lb : Int}
theorem ii0 (g : G) : F_is_int [.int 0, .int 0, .int 1] g = .ok (.bl true) g := by kernel_rfl
theorem ii1 (g : G) : F_is_int [.int 1, .int 0, .int 1] g = .ok (.bl true) g := by kernel_rfl
theorem ii2 (g : G) : F_is_int [.int 2, .int 0, .int 1] g = .ok (.bl false) g := by kernel_rfl
theorem ge0 : (0 ≤ (0 : Int)) = True := by simp
theorem ge1 : (0 ≤ (1 : Int)) = True := by simp
theorem read0 (h : a < one.length) (h0 : 0 ≤ a) (hm : m.length ≤ 1000) : F_Reader_read [.ins rf, .int 0] (gx ns t one other a b m la lb) = .ok (.int (nth one a)) (gx ns t one other (a + 1) b (m ++ [0]) la lb) := by
  have ne : (a = (one.length : Int)) = False := by simp; omega
  have e1 : subD (il one) (a + 1 - 1) = some (.int (nth one a)) := by rw [show a + 1 - 1 = a by omega]; exact sub_il one a h0 h
  unfold F_Reader_read b_Reader_read
  simp only [pvL, mkFn, gt, st, wipeE, List.length_cons, List.length_nil, List.replicate, List.map_cons, List.map_nil, List.cons_append, List.nil_append, List.append_nil, List.getD_cons_zero, List.getD_cons_succ, Nat.reduceAdd, Nat.reduceSub, Nat.reduceLT, if_true, ite_true, ite_false, reduceIte, Option.map_some, pfL, e_cmpc, e_cmpc1, e_cmpc2, e_fld, e_fld1, e_mcall, e_mc1, e_mc2, e_make, e_popc, e_pop1, e_lenr, e_len1, e_isX, e_meC, e_meJ, e_meS, e_isn1', e_nisn1', non_non, non_exc, non_int, non_lst, s_try', s_tryN, s_raise', seq_err, out_err, bind_err, ii0, rf0, rf1, rf2, gx4, gx2, sub0, subD0, len_il, ne, decide_false, s_augc', s_ac1, s_ac2, s_ac3, s_ac4, s_ac5, s_ac6A, s_ac7, gg4, gg5, gs4, gs5, two0, set0, ge0, s_appc', s_pc, s_pc1, s_pc2, s_pc3 _ _ _ (show (ii m).length ≤ 1000 by rw [ii_len]; exact hm), e1]
theorem read1 (h : b < other.length) (h0 : 0 ≤ b) (hm : m.length ≤ 1000) : F_Reader_read [.ins rf, .int 1] (gx ns t one other a b m la lb) = .ok (.int (nth other b)) (gx ns t one other a (b + 1) (m ++ [1]) la lb) := by
  have ne : (b = (other.length : Int)) = False := by simp; omega
  have e1 : subD (il other) (b + 1 - 1) = some (.int (nth other b)) := by rw [show b + 1 - 1 = b by omega]; exact sub_il other b h0 h
  unfold F_Reader_read b_Reader_read
  simp only [pvL, mkFn, gt, st, wipeE, List.length_cons, List.length_nil, List.replicate, List.map_cons, List.map_nil, List.cons_append, List.nil_append, List.append_nil, List.getD_cons_zero, List.getD_cons_succ, Nat.reduceAdd, Nat.reduceSub, Nat.reduceLT, if_true, ite_true, ite_false, reduceIte, Option.map_some, pfL, e_cmpc, e_cmpc1, e_cmpc2, e_fld, e_fld1, e_mcall, e_mc1, e_mc2, e_make, e_popc, e_pop1, e_lenr, e_len1, e_isX, e_meC, e_meJ, e_meS, e_isn1', e_nisn1', non_non, non_exc, non_int, non_lst, s_try', s_tryN, s_raise', seq_err, out_err, bind_err, ii1, rf0, rf1, rf2, gx4, gx3, sub1, subD1, len_il, ne, decide_false, s_augc', s_ac1, s_ac2, s_ac3, s_ac4, s_ac5, s_ac6A, s_ac7, gg4, gg5, gs4, gs5, two1, setAt1, ge1, s_appc', s_pc, s_pc1, s_pc2, s_pc3 _ _ _ (show (ii m).length ≤ 1000 by rw [ii_len]; exact hm), e1]
theorem read0e (h : a = one.length) : F_Reader_read [.ins rf, .int 0] (gx ns t one other a b m la lb) = .err 5 (gx ns t one other a b m la lb) := by
  unfold F_Reader_read b_Reader_read
  simp only [pvL, mkFn, gt, st, wipeE, List.length_cons, List.length_nil, List.replicate, List.map_cons, List.map_nil, List.cons_append, List.nil_append, List.append_nil, List.getD_cons_zero, List.getD_cons_succ, Nat.reduceAdd, Nat.reduceSub, Nat.reduceLT, if_true, ite_true, ite_false, reduceIte, Option.map_some, pfL, e_cmpc, e_cmpc1, e_cmpc2, e_fld, e_fld1, e_mcall, e_mc1, e_mc2, e_make, e_popc, e_pop1, e_lenr, e_len1, e_isX, e_meC, e_meJ, e_meS, e_isn1', e_nisn1', non_non, non_exc, non_int, non_lst, s_try', s_tryN, s_raise', seq_err, out_err, bind_err, ii0, rf0, rf1, rf2, gx4, gx2, sub0, subD0, len_il, h, decide_true]
theorem read1e (h : b = other.length) : F_Reader_read [.ins rf, .int 1] (gx ns t one other a b m la lb) = .err 5 (gx ns t one other a b m la lb) := by
  unfold F_Reader_read b_Reader_read
  simp only [pvL, mkFn, gt, st, wipeE, List.length_cons, List.length_nil, List.replicate, List.map_cons, List.map_nil, List.cons_append, List.nil_append, List.append_nil, List.getD_cons_zero, List.getD_cons_succ, Nat.reduceAdd, Nat.reduceSub, Nat.reduceLT, if_true, ite_true, ite_false, reduceIte, Option.map_some, pfL, e_cmpc, e_cmpc1, e_cmpc2, e_fld, e_fld1, e_mcall, e_mc1, e_mc2, e_make, e_popc, e_pop1, e_lenr, e_len1, e_isX, e_meC, e_meJ, e_meS, e_isn1', e_nisn1', non_non, non_exc, non_int, non_lst, s_try', s_tryN, s_raise', seq_err, out_err, bind_err, ii1, rf0, rf1, rf2, gx4, gx3, sub1, subD1, len_il, h, decide_true]
theorem read2 (g : G) : F_Reader_read [.ins rf, .int 2] g = .err 1 g := by
  unfold F_Reader_read b_Reader_read
  simp only [pvL, mkFn, gt, st, wipeE, List.length_cons, List.length_nil, List.replicate, List.map_cons, List.map_nil, List.cons_append, List.nil_append, List.append_nil, List.getD_cons_zero, List.getD_cons_succ, Nat.reduceAdd, Nat.reduceSub, Nat.reduceLT, if_true, ite_true, ite_false, reduceIte, Option.map_some, pfL, e_cmpc, e_cmpc1, e_cmpc2, e_fld, e_fld1, e_mcall, e_mc1, e_mc2, e_make, e_popc, e_pop1, e_lenr, e_len1, e_isX, e_meC, e_meJ, e_meS, e_isn1', e_nisn1', non_non, non_exc, non_int, non_lst, s_try', s_tryN, s_raise', seq_err, out_err, bind_err, ii2]
theorem undo0 : F_Reader_undo [.ins rf] (gx ns t one other a b [] la lb) = .err 5 (gx ns t one other a b [] la lb) := by
  have e : cmpD .eq (il []) (il []) = some true := by kernel_rfl
  unfold F_Reader_undo b_Reader_undo
  simp only [pvL, mkFn, gt, st, wipeE, List.length_cons, List.length_nil, List.replicate, List.map_cons, List.map_nil, List.cons_append, List.nil_append, List.append_nil, List.getD_cons_zero, List.getD_cons_succ, Nat.reduceAdd, Nat.reduceSub, Nat.reduceLT, if_true, ite_true, ite_false, reduceIte, Option.map_some, pfL, e_cmpc, e_cmpc1, e_cmpc2, e_fld, e_fld1, e_mcall, e_mc1, e_mc2, e_make, e_popc, e_pop1, e_lenr, e_len1, e_isX, e_meC, e_meJ, e_meS, e_isn1', e_nisn1', non_non, non_exc, non_int, non_lst, s_try', s_tryN, s_raise', seq_err, out_err, bind_err, rf2, gx5, e]
theorem pop_gx (w : Int) : popG 5 (gx ns t one other a b (m ++ [w]) la lb) = .ok (.int w) (gx ns t one other a b m la lb) := by
  unfold popG
  rw [gg5]
  have e1 : (ii (m ++ [w]))[(ii (m ++ [w])).length - 1]? = some (.int w) := by simp [ii]
  have e2 : (ii (m ++ [w])).dropLast = ii m := by simp [ii]
  simp only [e1, e2, gs5]
theorem undoA : F_Reader_undo [.ins rf] (gx ns t one other a b (m ++ [0]) la lb) = .ok (.int 0) (gx ns t one other (a - 1) b m la lb) := by
  have e : cmpD .eq (il (m ++ [0])) (il []) = some false := by rw [cmp_eq_il]; simp
  unfold F_Reader_undo b_Reader_undo
  simp only [pvL, mkFn, gt, st, wipeE, List.length_cons, List.length_nil, List.replicate, List.map_cons, List.map_nil, List.cons_append, List.nil_append, List.append_nil, List.getD_cons_zero, List.getD_cons_succ, Nat.reduceAdd, Nat.reduceSub, Nat.reduceLT, if_true, ite_true, ite_false, reduceIte, Option.map_some, pfL, e_cmpc, e_cmpc1, e_cmpc2, e_fld, e_fld1, e_mcall, e_mc1, e_mc2, e_make, e_popc, e_pop1, e_lenr, e_len1, e_isX, e_meC, e_meJ, e_meS, e_isn1', e_nisn1', non_non, non_exc, non_int, non_lst, s_try', s_tryN, s_raise', seq_err, out_err, bind_err, rf2, rf1, gx5, e, pop_gx, s_augc', s_ac1, s_ac2, s_ac3, s_ac4, s_ac5, s_ac6S, s_ac7, gg4, gs4, two0, set0, ge0]
theorem undoB : F_Reader_undo [.ins rf] (gx ns t one other a b (m ++ [1]) la lb) = .ok (.int 1) (gx ns t one other a (b - 1) m la lb) := by
  have e : cmpD .eq (il (m ++ [1])) (il []) = some false := by rw [cmp_eq_il]; simp
  unfold F_Reader_undo b_Reader_undo
  simp only [pvL, mkFn, gt, st, wipeE, List.length_cons, List.length_nil, List.replicate, List.map_cons, List.map_nil, List.cons_append, List.nil_append, List.append_nil, List.getD_cons_zero, List.getD_cons_succ, Nat.reduceAdd, Nat.reduceSub, Nat.reduceLT, if_true, ite_true, ite_false, reduceIte, Option.map_some, pfL, e_cmpc, e_cmpc1, e_cmpc2, e_fld, e_fld1, e_mcall, e_mc1, e_mc2, e_make, e_popc, e_pop1, e_lenr, e_len1, e_isX, e_meC, e_meJ, e_meS, e_isn1', e_nisn1', non_non, non_exc, non_int, non_lst, s_try', s_tryN, s_raise', seq_err, out_err, bind_err, rf2, rf1, gx5, e, pop_gx, s_augc', s_ac1, s_ac2, s_ac3, s_ac4, s_ac5, s_ac6S, s_ac7, gg4, gs4, two1, setAt1, ge1]
theorem depth_ok : F_Reader_depth [.ins rf] (gx ns t one other a b m la lb) = .ok (.tup [.int a, .int b]) (gx ns t one other a b m la lb) := by
  have e : b1D .tuple (.lst [.int a, .int b]) = some (.tup [.int a, .int b]) := rfl
  unfold F_Reader_depth b_Reader_depth
  simp only [pvL, mkFn, gt, st, wipeE, List.length_cons, List.length_nil, List.replicate, List.map_cons, List.map_nil, List.cons_append, List.nil_append, List.append_nil, List.getD_cons_zero, List.getD_cons_succ, Nat.reduceAdd, Nat.reduceSub, Nat.reduceLT, if_true, ite_true, ite_false, reduceIte, Option.map_some, pfL, e_cmpc, e_cmpc1, e_cmpc2, e_fld, e_fld1, e_mcall, e_mc1, e_mc2, e_make, e_popc, e_pop1, e_lenr, e_len1, e_isX, e_meC, e_meJ, e_meS, e_isn1', e_nisn1', non_non, non_exc, non_int, non_lst, s_try', s_tryN, s_raise', seq_err, out_err, bind_err, rf1, gx4, e]
theorem len_ok : F_Reader___len__ [.ins rf] (gx ns t one other a b m la lb) = .ok (.int m.length) (gx ns t one other a b m la lb) := by
  unfold F_Reader___len__ b_Reader___len__
  simp only [pvL, mkFn, gt, st, wipeE, List.length_cons, List.length_nil, List.replicate, List.map_cons, List.map_nil, List.cons_append, List.nil_append, List.append_nil, List.getD_cons_zero, List.getD_cons_succ, Nat.reduceAdd, Nat.reduceSub, Nat.reduceLT, if_true, ite_true, ite_false, reduceIte, Option.map_some, pfL, e_cmpc, e_cmpc1, e_cmpc2, e_fld, e_fld1, e_mcall, e_mc1, e_mc2, e_make, e_popc, e_pop1, e_lenr, e_len1, e_isX, e_meC, e_meJ, e_meS, e_isn1', e_nisn1', non_non, non_exc, non_int, non_lst, s_try', s_tryN, s_raise', seq_err, out_err, bind_err, rf2, gx5, len_il]
/-- what was read in both, in one -/
def inB (one other : List Int) (a b : Int) (x : Int) : Bool := decide (x ∈ one.take a.toNat) && decide (x ∈ other.take b.toNat)
def inO (one other : List Int) (a b : Int) (x : Int) : Bool := !(decide (decide (x ∈ one.take a.toNat) = decide (x ∈ other.take b.toNat)))
theorem seen_ok {n : Nat} (h1 : Full one n) (h2 : Full other n) (ha : 0 ≤ a) (hb : 0 ≤ b) : F_Reader_seen [.ins rf] (gx ns t one other a b m la lb) = .ok (il ((rngI 0 n).filter (inB one other a b))) (gx ns t one other a b m la lb) := by
  unfold F_Reader_seen b_Reader_seen
  simp only [pvL, mkFn, gt, st, wipeE, List.length_cons, List.length_nil, List.replicate, List.map_cons, List.map_nil, List.cons_append, List.nil_append, List.append_nil, List.getD_cons_zero, List.getD_cons_succ, Nat.reduceAdd, Nat.reduceSub, Nat.reduceLT, if_true, ite_true, ite_false, reduceIte, Option.map_some, pfL, e_cmpc, e_cmpc1, e_cmpc2, e_fld, e_fld1, e_mcall, e_mc1, e_mc2, e_make, e_popc, e_pop1, e_lenr, e_len1, e_isX, e_meC, e_meJ, e_meS, e_isn1', e_nisn1', non_non, non_exc, non_int, non_lst, s_try', s_tryN, s_raise', seq_err, out_err, bind_err, rf0, rf1, gx2, gx3, gx4, sub0, sub1, subD0, subD1, cut_il, cut_to one a ha, cut_to other b hb]
  rw [c_flt (fun x => decide (x ∈ other.take b.toNat)) (by have := h1.len; have := h1.most; simp; omega)]
  · simp only [pvL, mkFn, gt, st, wipeE, List.length_cons, List.length_nil, List.replicate, List.map_cons, List.map_nil, List.cons_append, List.nil_append, List.append_nil, List.getD_cons_zero, List.getD_cons_succ, Nat.reduceAdd, Nat.reduceSub, Nat.reduceLT, if_true, ite_true, ite_false, reduceIte, Option.map_some, pfL, e_cmpc, e_cmpc1, e_cmpc2, e_fld, e_fld1, e_mcall, e_mc1, e_mc2, e_make, e_popc, e_pop1, e_lenr, e_len1, e_isX, e_meC, e_meJ, e_meS, e_isn1', e_nisn1', non_non, non_exc, non_int, non_lst, s_try', s_tryN, s_raise', seq_err, out_err, bind_err, sorted_il]
    rw [sort_rng (n := n) (p := inB one other a b) ((h1.nodup.sublist (List.take_sublist ..)).filter _)]
    intro x
    rw [List.mem_filter]
    unfold inB
    simp only [Bool.and_eq_true, decide_eq_true_eq]
    constructor
    · rintro ⟨h, h'⟩
      exact ⟨h1.mem.mp (List.mem_of_mem_take h), h, h'⟩
    · rintro ⟨_, h, h'⟩
      exact ⟨h, h'⟩
  · intro x hx
    simp only [pvL, mkFn, gt, st, wipeE, List.length_cons, List.length_nil, List.replicate, List.map_cons, List.map_nil, List.cons_append, List.nil_append, List.append_nil, List.getD_cons_zero, List.getD_cons_succ, Nat.reduceAdd, Nat.reduceSub, Nat.reduceLT, if_true, ite_true, ite_false, reduceIte, Option.map_some, pfL, e_cmpc, e_cmpc1, e_cmpc2, e_fld, e_fld1, e_mcall, e_mc1, e_mc2, e_make, e_popc, e_pop1, e_lenr, e_len1, e_isX, e_meC, e_meJ, e_meS, e_isn1', e_nisn1', non_non, non_exc, non_int, non_lst, s_try', s_tryN, s_raise', seq_err, out_err, bind_err]
theorem cmp_ne_bl (a b : Bool) : cmpD .ne (.bl a) (.bl b) = some (!decide (a = b)) := by cases a <;> cases b <;> rfl
theorem waits_ok {n : Nat} (h1 : Full one n) (h2 : Full other n) (ha : 0 ≤ a) (hb : 0 ≤ b) : F_Reader_waits [.ins rf] (gx ns t one other a b m la lb) = .ok (il ((rngI 0 n).filter (inO one other a b))) (gx ns t one other a b m la lb) := by
  have l1 : (one.take a.toNat).length ≤ 7 := by have := h1.len; have := h1.most; simp; omega
  have l2 : (other.take b.toNat).length ≤ 7 := by have := h2.len; have := h2.most; simp; omega
  unfold F_Reader_waits b_Reader_waits
  simp only [pvL, mkFn, gt, st, wipeE, List.length_cons, List.length_nil, List.replicate, List.map_cons, List.map_nil, List.cons_append, List.nil_append, List.append_nil, List.getD_cons_zero, List.getD_cons_succ, Nat.reduceAdd, Nat.reduceSub, Nat.reduceLT, if_true, ite_true, ite_false, reduceIte, Option.map_some, pfL, e_cmpc, e_cmpc1, e_cmpc2, e_fld, e_fld1, e_mcall, e_mc1, e_mc2, e_make, e_popc, e_pop1, e_lenr, e_len1, e_isX, e_meC, e_meJ, e_meS, e_isn1', e_nisn1', non_non, non_exc, non_int, non_lst, s_try', s_tryN, s_raise', seq_err, out_err, bind_err, rf0, rf1, gx2, gx3, gx4, sub0, sub1, subD0, subD1, cut_il, cut_to one a ha, cut_to other b hb, bin_app2 (show (one.take a.toNat).length + (other.take b.toNat).length ≤ 1000 by omega)]
  rw [c_flt (inO one other a b) (by rw [List.length_append]; omega)]
  · simp only [pvL, mkFn, gt, st, wipeE, List.length_cons, List.length_nil, List.replicate, List.map_cons, List.map_nil, List.cons_append, List.nil_append, List.append_nil, List.getD_cons_zero, List.getD_cons_succ, Nat.reduceAdd, Nat.reduceSub, Nat.reduceLT, if_true, ite_true, ite_false, reduceIte, Option.map_some, pfL, e_cmpc, e_cmpc1, e_cmpc2, e_fld, e_fld1, e_mcall, e_mc1, e_mc2, e_make, e_popc, e_pop1, e_lenr, e_len1, e_isX, e_meC, e_meJ, e_meS, e_isn1', e_nisn1', non_non, non_exc, non_int, non_lst, s_try', s_tryN, s_raise', seq_err, out_err, bind_err, sorted_il]
    rw [sort_rng (n := n) (p := inO one other a b)]
    · rw [List.filter_append]
      refine List.nodup_append.mpr ⟨(h1.nodup.sublist (List.take_sublist ..)).filter _, (h2.nodup.sublist (List.take_sublist ..)).filter _, ?_⟩
      intro x hx y hy e
      subst e
      obtain ⟨p1, p2⟩ := List.mem_filter.mp hx
      obtain ⟨p3, _⟩ := List.mem_filter.mp hy
      unfold inO at p2
      simp [p1, p3] at p2
    · intro x
      rw [List.mem_filter, List.mem_append]
      unfold inO
      constructor
      · rintro ⟨h | h, h'⟩
        · exact ⟨h1.mem.mp (List.mem_of_mem_take h), h'⟩
        · exact ⟨h2.mem.mp (List.mem_of_mem_take h), h'⟩
      · rintro ⟨_, h⟩
        refine ⟨?_, h⟩
        by_cases p1 : x ∈ one.take a.toNat
        · exact .inl p1
        · by_cases p2 : x ∈ other.take b.toNat
          · exact .inr p2
          · simp [p1, p2] at h
  · intro x hx
    simp only [pvL, mkFn, gt, st, wipeE, List.length_cons, List.length_nil, List.replicate, List.map_cons, List.map_nil, List.cons_append, List.nil_append, List.append_nil, List.getD_cons_zero, List.getD_cons_succ, Nat.reduceAdd, Nat.reduceSub, Nat.reduceLT, if_true, ite_true, ite_false, reduceIte, Option.map_some, pfL, e_cmpc, e_cmpc1, e_cmpc2, e_fld, e_fld1, e_mcall, e_mc1, e_mc2, e_make, e_popc, e_pop1, e_lenr, e_len1, e_isX, e_meC, e_meJ, e_meS, e_isn1', e_nisn1', non_non, non_exc, non_int, non_lst, s_try', s_tryN, s_raise', seq_err, out_err, bind_err, cmp_ne_bl]
    unfold inO
    cases decide (decide (x ∈ one.take a.toNat) = decide (x ∈ other.take b.toNat)) <;> rfl
theorem draw_gx (lim : Int) (hn : 0 < ns.length) (h0 : 0 < lim) (h1 : lim < 1000000) : ∃ v ns' t', F__law_draw [.cell 1, .int lim] (gx ns t one other a b m la lb) = .ok (.int v) (gx ns' t' one other a b m la lb) ∧ (0 ≤ v ∧ v < lim) ∧ ns'.length = ns.length := draw_okR ns t _ lim hn h0 h1
/-- a call of read, of undo -/
theorem call_r {g g' : G} {w : Int} {d : D} (h : F_Reader_read [.ins rf, .int w] g = .ok d g') : F__law_call_k11 [.ins rf, .int 0, .int w] g = .ok d g' := by
  unfold F__law_call_k11 b__law_call_k11
  simp only [pvL, mkFn, gt, st, wipeE, List.length_cons, List.length_nil, List.replicate, List.map_cons, List.map_nil, List.cons_append, List.nil_append, List.append_nil, List.getD_cons_zero, List.getD_cons_succ, Nat.reduceAdd, Nat.reduceSub, Nat.reduceLT, if_true, ite_true, ite_false, reduceIte, Option.map_some, pfL, e_cmpc, e_cmpc1, e_cmpc2, e_fld, e_fld1, e_mcall, e_mc1, e_mc2, e_make, e_popc, e_pop1, e_lenr, e_len1, e_isX, e_meC, e_meJ, e_meS, e_isn1', e_nisn1', non_non, non_exc, non_int, non_lst, s_try', s_tryN, s_raise', seq_err, out_err, bind_err, h]
theorem call_re {g g' : G} {w : Int} {k : Nat} (hk : k < 6) (h : F_Reader_read [.ins rf, .int w] g = .err k g') : F__law_call_k11 [.ins rf, .int 0, .int w] g = .ok (.str (exN k)) g' := by
  unfold F__law_call_k11 b__law_call_k11
  simp only [pvL, mkFn, gt, st, wipeE, List.length_cons, List.length_nil, List.replicate, List.map_cons, List.map_nil, List.cons_append, List.nil_append, List.append_nil, List.getD_cons_zero, List.getD_cons_succ, Nat.reduceAdd, Nat.reduceSub, Nat.reduceLT, if_true, ite_true, ite_false, reduceIte, Option.map_some, pfL, e_cmpc, e_cmpc1, e_cmpc2, e_fld, e_fld1, e_mcall, e_mc1, e_mc2, e_make, e_popc, e_pop1, e_lenr, e_len1, e_isX, e_meC, e_meJ, e_meS, e_isn1', e_nisn1', non_non, non_exc, non_int, non_lst, s_try', s_tryN, s_raise', seq_err, out_err, bind_err, h, s_tryE 5 4 k hk, error_ok g' k hk]
theorem ne10 : ((1 : Int) = 0) = False := by simp
theorem call_u {g g' : G} {d : D} (h : F_Reader_undo [.ins rf] g = .ok d g') : F__law_call_k11 [.ins rf, .int 1, .int 0] g = .ok d g' := by
  unfold F__law_call_k11 b__law_call_k11
  simp only [pvL, mkFn, gt, st, wipeE, List.length_cons, List.length_nil, List.replicate, List.map_cons, List.map_nil, List.cons_append, List.nil_append, List.append_nil, List.getD_cons_zero, List.getD_cons_succ, Nat.reduceAdd, Nat.reduceSub, Nat.reduceLT, if_true, ite_true, ite_false, reduceIte, Option.map_some, pfL, e_cmpc, e_cmpc1, e_cmpc2, e_fld, e_fld1, e_mcall, e_mc1, e_mc2, e_make, e_popc, e_pop1, e_lenr, e_len1, e_isX, e_meC, e_meJ, e_meS, e_isn1', e_nisn1', non_non, non_exc, non_int, non_lst, s_try', s_tryN, s_raise', seq_err, out_err, bind_err, h, ne10, if_false]
theorem call_ue {g g' : G} {k : Nat} (hk : k < 6) (h : F_Reader_undo [.ins rf] g = .err k g') : F__law_call_k11 [.ins rf, .int 1, .int 0] g = .ok (.str (exN k)) g' := by
  unfold F__law_call_k11 b__law_call_k11
  simp only [pvL, mkFn, gt, st, wipeE, List.length_cons, List.length_nil, List.replicate, List.map_cons, List.map_nil, List.cons_append, List.nil_append, List.append_nil, List.getD_cons_zero, List.getD_cons_succ, Nat.reduceAdd, Nat.reduceSub, Nat.reduceLT, if_true, ite_true, ite_false, reduceIte, Option.map_some, pfL, e_cmpc, e_cmpc1, e_cmpc2, e_fld, e_fld1, e_mcall, e_mc1, e_mc2, e_make, e_popc, e_pop1, e_lenr, e_len1, e_isX, e_meC, e_meJ, e_meS, e_isn1', e_nisn1', non_non, non_exc, non_int, non_lst, s_try', s_tryN, s_raise', seq_err, out_err, bind_err, h, ne10, if_false, s_tryE 5 4 k hk, error_ok g' k hk]
/-- what was read so far -/
structure Made (m : List Int) (n : Nat) : Prop where
  le0 : cn 0 m ≤ n
  le1 : cn 1 m ≤ n
  two : ∀ x ∈ m, x = 0 ∨ x = 1
theorem cn_nn (w : Int) (m : List Int) : 0 ≤ cn w m := Int.natCast_nonneg _
theorem cn_app (w x : Int) (m : List Int) : cn w (m ++ [x]) = cn w m + if x = w then 1 else 0 := by
  unfold cn
  rw [List.count_append]
  by_cases h : x = w <;> simp [h]
theorem Made.len {m : List Int} {n : Nat} (h : Made m n) : (m.length : Int) = cn 0 m + cn 1 m := by
  have : ∀ l : List Int, (∀ x ∈ l, x = 0 ∨ x = 1) → (l.length : Int) = cn 0 l + cn 1 l := by
    intro l
    induction l with
    | nil => intro _; rfl
    | cons x r ih =>
      intro h
      have i := ih fun y hy => h y (List.mem_cons_of_mem _ hy)
      unfold cn at *
      rcases h x List.mem_cons_self with rfl | rfl <;> simp [List.count_cons] at * <;> omega
  exact this m h.two
/-- the cells at a state -/
def gm (ns : List Int) (t : Int) (one other m : List Int) : G := gx ns t one other (cn 0 m) (cn 1 m) m (cn 0 m) (cn 1 m)
def T11 : List Fn := [F_Reader_waits, F_Reader_seen, F__law_call_k11, F_Reader___len__, F_Reader_depth, F__law_draw, F_Reader___init__, F__law_list, F__law_start]
def step11 : St := (.ife (.cmp .gt (.call 5 (.cons (.var 1) (.cons (.lit (.int 4)) .nil))) (.lit (.int 0))) (.cons (.asg 8 (.call 5 (.cons (.var 1) (.cons (.lit (.int 2)) .nil)))) (.cons (.asg 9 (.call 2 (.cons (.var 4) (.cons (.lit (.int 0)) (.cons (.var 8) .nil))))) (.cons (.ife (.cmp .eq (.sub (.var 5) (.var 8)) (.var 2)) (.cons (.ife (.cmp .ne (.var 9) (.lit (.str "none"))) (.cons (.ret (.lit (.bl false))) .nil) .nil) .nil) (.cons (.setc (.var 5) (.var 8) (.bin .add (.sub (.var 5) (.var 8)) (.lit (.int 1)))) (.cons (.asg 6 (.bin .add (.var 6) (.list (.cons (.var 8) .nil)))) (.cons (.ife (.cmp .ne (.var 9) (.sub (.sub (.var 3) (.var 8)) (.bin .sub (.sub (.var 5) (.var 8)) (.lit (.int 1))))) (.cons (.ret (.lit (.bl false))) .nil) .nil) .nil)))) .nil))) (.cons (.ife (.cmp .eq (.var 6) (.list .nil)) (.cons (.ife (.cmp .ne (.call 2 (.cons (.var 4) (.cons (.lit (.int 1)) (.cons (.lit (.int 0)) .nil)))) (.lit (.str "none"))) (.cons (.ret (.lit (.bl false))) .nil) .nil) .nil) (.cons (.ife (.cmp .ne (.call 2 (.cons (.var 4) (.cons (.lit (.int 1)) (.cons (.lit (.int 0)) .nil)))) (.sub (.var 6) (.neg (.lit (.int 1))))) (.cons (.ret (.lit (.bl false))) .nil) .nil) (.cons (.setc (.var 5) (.sub (.var 6) (.neg (.lit (.int 1)))) (.bin .sub (.sub (.var 5) (.sub (.var 6) (.neg (.lit (.int 1))))) (.lit (.int 1)))) (.cons (.asg 6 (.slice (.var 6) .absent (.opt (.neg (.lit (.int 1)))))) .nil)))) .nil))
def chk11 : St := (.cons (.par [10, 11] (.cons (.slice (.sub (.var 3) (.lit (.int 0))) .absent (.opt (.sub (.var 5) (.lit (.int 0))))) (.cons (.slice (.sub (.var 3) (.lit (.int 1))) .absent (.opt (.sub (.var 5) (.lit (.int 1))))) .nil))) (.cons (.ife (.cmp .ne (.mcall 1 (.var 4) .nil) (.comp (.var 12) (.one 12) (.irng1 (.var 2)) (.opt (.ands (.cons (.cmp .isin (.var 12) (.var 10)) (.cons (.cmp .isin (.var 12) (.var 11)) .nil)))) [12])) (.cons (.ret (.lit (.bl false))) .nil) .nil) (.cons (.ife (.cmp .ne (.mcall 0 (.var 4) .nil) (.comp (.var 12) (.one 12) (.irng1 (.var 2)) (.opt (.cmp .ne (.cmp .isin (.var 12) (.var 10)) (.cmp .isin (.var 12) (.var 11)))) [12])) (.cons (.ret (.lit (.bl false))) .nil) .nil) (.cons (.ife (.ors (.cons (.cmp .ne (.mcall 4 (.var 4) .nil) (.tuple (.cons (.sub (.var 5) (.lit (.int 0))) (.cons (.sub (.var 5) (.lit (.int 1))) .nil)))) (.cons (.cmp .ne (.lenr 3 (.var 4)) (.b1 .len (.var 6))) (.cons (.cmp .ne (.call 2 (.cons (.var 4) (.cons (.lit (.int 0)) (.cons (.lit (.int 2)) .nil)))) (.lit (.str "number"))) .nil)))) (.cons (.ret (.lit (.bl false))) .nil) .nil) .nil))))
theorem step11_ok {n : Nat} (h1 : Full one n) (h2 : Full other n) (hm : Made m n) (hn : 0 < ns.length) (s x7 u8 u9 u10 u11 u12 : Option D) :
    ∃ ns' t' m' v8 v9, ns'.length = ns.length ∧ Made m' n ∧ evS T11 step11 [s, some (.cell 1), some (.int n), some (.lst [il one, il other]), some (.ins rf), some (.cell 6), some (il m), x7, u8, u9, u10, u11, u12] (gm ns t one other m)
      = .nx [s, some (.cell 1), some (.int n), some (.lst [il one, il other]), some (.ins rf), some (.cell 6), some (il m'), x7, v8, v9, u10, u11, u12] (gm ns' t' one other m') := by
  have m7 := h1.most
  have ml := hm.len
  have c0 := cn_nn 0 m
  have c1 := cn_nn 1 m
  have q0 := hm.le0
  have q1 := hm.le1
  have hl : m.length ≤ 1000 := by omega
  have s5 : cmpD .ne (.str (exN 5)) (.str "none") = some false := by kernel_rfl
  unfold gm
  obtain ⟨v, n1, t1, e1, hv, l1⟩ := draw_gx (t := t) (one := one) (other := other) (a := cn 0 m) (b := cn 1 m) (m := m) (la := cn 0 m) (lb := cn 1 m) 4 hn (by omega) (by omega)
  by_cases hv0 : v = 0
  · subst hv0
    have z : ((0 : Int) > 0) = False := by simp
    have hc : m = [] ∨ ∃ m0 w, m = m0 ++ [w] := by
      rcases List.eq_nil_or_concat m with h | ⟨m0, w, h⟩
      · exact .inl h
      · exact .inr ⟨m0, w, by rw [h, List.concat_eq_append]⟩
    rcases hc with rfl | ⟨m0, w, rfl⟩
    · refine ⟨n1, t1, [], u8, u9, l1, hm, ?_⟩
      have e2 : cmpD .eq (il []) (il []) = some true := by kernel_rfl
      unfold step11 T11
      simp only [pvL, mkFn, gt, st, wipeE, List.length_cons, List.length_nil, List.replicate, List.map_cons, List.map_nil, List.cons_append, List.nil_append, List.append_nil, List.getD_cons_zero, List.getD_cons_succ, Nat.reduceAdd, Nat.reduceSub, Nat.reduceLT, if_true, ite_true, ite_false, reduceIte, Option.map_some, pfL, e_cmpc, e_cmpc1, e_cmpc2, e_fld, e_fld1, e_mcall, e_mc1, e_mc2, e_make, e_popc, e_pop1, e_lenr, e_len1, e_isX, e_meC, e_meJ, e_meS, e_isn1', e_nisn1', non_non, non_exc, non_int, non_lst, s_try', s_tryN, s_raise', seq_err, out_err, bind_err, e1, cmp_gt, z, decide_false, e2, call_ue (by decide) undo0, s5]
    · have e2 : cmpD .eq (il (m0 ++ [w])) (il []) = some false := by rw [cmp_eq_il]; simp
      have e3 : subD (il (m0 ++ [w])) (-1) = some (.int w) := by
        rw [show il (m0 ++ [w]) = .lst (ii m0 ++ [.int w]) by simp [ii]]
        exact sub_last _ _
      have e4 : cutE (il (m0 ++ [w])) none (some (-1)) = some (il m0) := by
        rw [cut_il]
        congr 2
        simp only [cutD, HT.sIx, List.drop_zero, Nat.sub_zero]
        rw [if_pos (by omega), show ((-1 : Int) + ((m0 ++ [w]).length : Int)).toNat = m0.length by simp; omega, List.take_left]
      have hw : w = 0 ∨ w = 1 := hm.two w (by simp)
      have hm0 : Made m0 n := ⟨by rw [cn_app] at q0; split at q0 <;> omega, by rw [cn_app] at q1; split at q1 <;> omega, fun x hx => hm.two x (by simp [hx])⟩
      rcases hw with rfl | rfl
      · have a0 : cn 0 (m0 ++ [0]) = cn 0 m0 + 1 := by rw [cn_app]; simp
        have a1 : cn 1 (m0 ++ [0]) = cn 1 m0 := by rw [cn_app]; simp
        have ee : cn 0 m0 + 1 - 1 = cn 0 m0 := by omega
        refine ⟨n1, t1, m0, u8, u9, l1, hm0, ?_⟩
        rw [a0, a1] at e1 ⊢
        unfold step11 T11
        simp only [pvL, mkFn, gt, st, wipeE, List.length_cons, List.length_nil, List.replicate, List.map_cons, List.map_nil, List.cons_append, List.nil_append, List.append_nil, List.getD_cons_zero, List.getD_cons_succ, Nat.reduceAdd, Nat.reduceSub, Nat.reduceLT, if_true, ite_true, ite_false, reduceIte, Option.map_some, pfL, e_cmpc, e_cmpc1, e_cmpc2, e_fld, e_fld1, e_mcall, e_mc1, e_mc2, e_make, e_popc, e_pop1, e_lenr, e_len1, e_isX, e_meC, e_meJ, e_meS, e_isn1', e_nisn1', non_non, non_exc, non_int, non_lst, s_try', s_tryN, s_raise', seq_err, out_err, bind_err, e1, cmp_gt, z, decide_false, e2, call_u undoA, ee, e3, e_neg, s_setc', s_sc1, s_sc2, kSc3, gg6, gx6, sub0, setAt1, set0, gs6, nolist, e4]
      · have a0 : cn 0 (m0 ++ [1]) = cn 0 m0 := by rw [cn_app]; simp
        have a1 : cn 1 (m0 ++ [1]) = cn 1 m0 + 1 := by rw [cn_app]; simp
        have ee : cn 1 m0 + 1 - 1 = cn 1 m0 := by omega
        refine ⟨n1, t1, m0, u8, u9, l1, hm0, ?_⟩
        rw [a0, a1] at e1 ⊢
        unfold step11 T11
        simp only [pvL, mkFn, gt, st, wipeE, List.length_cons, List.length_nil, List.replicate, List.map_cons, List.map_nil, List.cons_append, List.nil_append, List.append_nil, List.getD_cons_zero, List.getD_cons_succ, Nat.reduceAdd, Nat.reduceSub, Nat.reduceLT, if_true, ite_true, ite_false, reduceIte, Option.map_some, pfL, e_cmpc, e_cmpc1, e_cmpc2, e_fld, e_fld1, e_mcall, e_mc1, e_mc2, e_make, e_popc, e_pop1, e_lenr, e_len1, e_isX, e_meC, e_meJ, e_meS, e_isn1', e_nisn1', non_non, non_exc, non_int, non_lst, s_try', s_tryN, s_raise', seq_err, out_err, bind_err, e1, cmp_gt, z, decide_false, e2, call_u undoB, ee, e3, e_neg, s_setc', s_sc1, s_sc2, kSc3, gg6, gx6, sub1, setAt1, set0, gs6, nolist, e4]
  · have z : (v > 0) = True := by simp; omega
    obtain ⟨w, n2, t2, e2, hw, l2⟩ := draw_gx (t := t1) (one := one) (other := other) (a := cn 0 m) (b := cn 1 m) (m := m) (la := cn 0 m) (lb := cn 1 m) 2 (by omega : 0 < n1.length) (by omega) (by omega)
    have hw' : w = 0 ∨ w = 1 := by omega
    rcases hw' with rfl | rfl
    · by_cases hf : cn 0 m = n
      · refine ⟨n2, t2, m, some (.int 0), some (.str (exN 5)), by omega, hm, ?_⟩
        unfold step11 T11
        rw [hf] at e1 e2 ⊢
        simp only [pvL, mkFn, gt, st, wipeE, List.length_cons, List.length_nil, List.replicate, List.map_cons, List.map_nil, List.cons_append, List.nil_append, List.append_nil, List.getD_cons_zero, List.getD_cons_succ, Nat.reduceAdd, Nat.reduceSub, Nat.reduceLT, if_true, ite_true, ite_false, reduceIte, Option.map_some, pfL, e_cmpc, e_cmpc1, e_cmpc2, e_fld, e_fld1, e_mcall, e_mc1, e_mc2, e_make, e_popc, e_pop1, e_lenr, e_len1, e_isX, e_meC, e_meJ, e_meS, e_isn1', e_nisn1', non_non, non_exc, non_int, non_lst, s_try', s_tryN, s_raise', seq_err, out_err, bind_err, e1, cmp_gt, z, decide_true, e2, call_re (by decide) (read0e (a := (n : Int)) (by rw [h1.len])), gx6, sub0, s5]
      · refine ⟨n2, t2, m ++ [0], some (.int 0), some (.int (nth one (cn 0 m))), by omega, ⟨by rw [cn_app]; simp; omega, by rw [cn_app]; simp; omega, fun x hx => by
          rcases List.mem_append.mp hx with h | h
          · exact hm.two x h
          · simp at h; exact .inl h⟩, ?_⟩
        have hf' : (cn 0 m = (n : Int)) = False := by simp [hf]
        have ee : cn 0 m + 1 - 1 = cn 0 m := by omega
        have a0 : cn 0 (m ++ [0]) = cn 0 m + 1 := by rw [cn_app]; simp
        have a1 : cn 1 (m ++ [0]) = cn 1 m := by rw [cn_app]; simp
        rw [a0, a1]
        unfold step11 T11
        simp only [pvL, mkFn, gt, st, wipeE, List.length_cons, List.length_nil, List.replicate, List.map_cons, List.map_nil, List.cons_append, List.nil_append, List.append_nil, List.getD_cons_zero, List.getD_cons_succ, Nat.reduceAdd, Nat.reduceSub, Nat.reduceLT, if_true, ite_true, ite_false, reduceIte, Option.map_some, pfL, e_cmpc, e_cmpc1, e_cmpc2, e_fld, e_fld1, e_mcall, e_mc1, e_mc2, e_make, e_popc, e_pop1, e_lenr, e_len1, e_isX, e_meC, e_meJ, e_meS, e_isn1', e_nisn1', non_non, non_exc, non_int, non_lst, s_try', s_tryN, s_raise', seq_err, out_err, bind_err, e1, cmp_gt, z, decide_true, e2, call_r (read0 (by rw [h1.len]; omega) c0 hl), gx6, sub0, hf', decide_false, s_setc', s_sc1, s_sc2, kSc3, gg6, setAt1, set0, gs6, nolist, show D.lst [D.int 0] = il [0] from rfl, bin_app2 (show m.length + [(0 : Int)].length ≤ 1000 by simp; omega), ee, sub_il one (cn 0 m) c0 (by rw [h1.len]; omega)]
    · by_cases hf : cn 1 m = n
      · refine ⟨n2, t2, m, some (.int 1), some (.str (exN 5)), by omega, hm, ?_⟩
        unfold step11 T11
        rw [hf] at e1 e2 ⊢
        simp only [pvL, mkFn, gt, st, wipeE, List.length_cons, List.length_nil, List.replicate, List.map_cons, List.map_nil, List.cons_append, List.nil_append, List.append_nil, List.getD_cons_zero, List.getD_cons_succ, Nat.reduceAdd, Nat.reduceSub, Nat.reduceLT, if_true, ite_true, ite_false, reduceIte, Option.map_some, pfL, e_cmpc, e_cmpc1, e_cmpc2, e_fld, e_fld1, e_mcall, e_mc1, e_mc2, e_make, e_popc, e_pop1, e_lenr, e_len1, e_isX, e_meC, e_meJ, e_meS, e_isn1', e_nisn1', non_non, non_exc, non_int, non_lst, s_try', s_tryN, s_raise', seq_err, out_err, bind_err, e1, cmp_gt, z, decide_true, e2, call_re (by decide) (read1e (b := (n : Int)) (by rw [h2.len])), gx6, sub1, s5]
      · refine ⟨n2, t2, m ++ [1], some (.int 1), some (.int (nth other (cn 1 m))), by omega, ⟨by rw [cn_app]; simp; omega, by rw [cn_app]; simp; omega, fun x hx => by
          rcases List.mem_append.mp hx with h | h
          · exact hm.two x h
          · simp at h; exact .inr h⟩, ?_⟩
        have hf' : (cn 1 m = (n : Int)) = False := by simp [hf]
        have ee : cn 1 m + 1 - 1 = cn 1 m := by omega
        have a0 : cn 0 (m ++ [1]) = cn 0 m := by rw [cn_app]; simp
        have a1 : cn 1 (m ++ [1]) = cn 1 m + 1 := by rw [cn_app]; simp
        rw [a0, a1]
        unfold step11 T11
        simp only [pvL, mkFn, gt, st, wipeE, List.length_cons, List.length_nil, List.replicate, List.map_cons, List.map_nil, List.cons_append, List.nil_append, List.append_nil, List.getD_cons_zero, List.getD_cons_succ, Nat.reduceAdd, Nat.reduceSub, Nat.reduceLT, if_true, ite_true, ite_false, reduceIte, Option.map_some, pfL, e_cmpc, e_cmpc1, e_cmpc2, e_fld, e_fld1, e_mcall, e_mc1, e_mc2, e_make, e_popc, e_pop1, e_lenr, e_len1, e_isX, e_meC, e_meJ, e_meS, e_isn1', e_nisn1', non_non, non_exc, non_int, non_lst, s_try', s_tryN, s_raise', seq_err, out_err, bind_err, e1, cmp_gt, z, decide_true, e2, call_r (read1 (by rw [h2.len]; omega) c1 hl), gx6, sub1, hf', decide_false, s_setc', s_sc1, s_sc2, kSc3, gg6, setAt1, set0, gs6, nolist, show D.lst [D.int 1] = il [1] from rfl, bin_app2 (show m.length + [(1 : Int)].length ≤ 1000 by simp; omega), ee, sub_il other (cn 1 m) c1 (by rw [h2.len]; omega)]
theorem cmp_ne_two (a b : Int) : cmpD .ne (.tup [.int a, .int b]) (.tup [.int a, .int b]) = some false := by
  have p : pln 8 (.tup [.int a, .int b]) = true := by simp [pln, plnL]
  rw [cmp_ne_of _ _ (fun ns h => by cases h) p p]
  simp [eqD, eqL]
theorem kLen2_ok {g : G} (i : Nat) (h : i ≤ 1000) : kLen2 (.int (i : Int)) g = .ok (.int i) g := by
  unfold kLen2
  simp only
  rw [if_pos ⟨by omega, by omega⟩]
theorem chk11_ok {n : Nat} (h1 : Full one n) (h2 : Full other n) (hm : Made m n) (s x7 u8 u9 u10 u11 u12 : Option D) :
    ∃ v10 v11, evS T11 chk11 [s, some (.cell 1), some (.int n), some (.lst [il one, il other]), some (.ins rf), some (.cell 6), some (il m), x7, u8, u9, u10, u11, u12] (gm ns t one other m)
      = .nx [s, some (.cell 1), some (.int n), some (.lst [il one, il other]), some (.ins rf), some (.cell 6), some (il m), x7, u8, u9, v10, v11, u12] (gm ns t one other m) := by
  have m7 := h1.most
  have ml := hm.len
  have c0 := cn_nn 0 m
  have c1 := cn_nn 1 m
  have q0 := hm.le0
  have q1 := hm.le1
  have hl : m.length ≤ 1000 := by omega
  have s1 : cmpD .ne (.str (exN 1)) (.str "number") = some false := by kernel_rfl
  refine ⟨some (il (one.take (cn 0 m).toNat)), some (il (other.take (cn 1 m).toNat)), ?_⟩
  unfold gm chk11 T11
  simp only [pvL, mkFn, gt, st, wipeE, List.length_cons, List.length_nil, List.replicate, List.map_cons, List.map_nil, List.cons_append, List.nil_append, List.append_nil, List.getD_cons_zero, List.getD_cons_succ, Nat.reduceAdd, Nat.reduceSub, Nat.reduceLT, if_true, ite_true, ite_false, reduceIte, Option.map_some, pfL, e_cmpc, e_cmpc1, e_cmpc2, e_fld, e_fld1, e_mcall, e_mc1, e_mc2, e_make, e_popc, e_pop1, e_lenr, e_len1, e_isX, e_meC, e_meJ, e_meS, e_isn1', e_nisn1', non_non, non_exc, non_int, non_lst, s_try', s_tryN, s_raise', seq_err, out_err, bind_err, sub0, sub1, gx6, cut_il, cut_to one _ c0, cut_to other _ c1, seen_ok h1 h2 c0 c1, rngD_ii 0 (n : Int) (by omega)]
  rw [c_flt (inB one other (cn 0 m) (cn 1 m)) (by rw [rngI_len]; omega)]
  · simp only [pvL, mkFn, gt, st, wipeE, List.length_cons, List.length_nil, List.replicate, List.map_cons, List.map_nil, List.cons_append, List.nil_append, List.append_nil, List.getD_cons_zero, List.getD_cons_succ, Nat.reduceAdd, Nat.reduceSub, Nat.reduceLT, if_true, ite_true, ite_false, reduceIte, Option.map_some, pfL, e_cmpc, e_cmpc1, e_cmpc2, e_fld, e_fld1, e_mcall, e_mc1, e_mc2, e_make, e_popc, e_pop1, e_lenr, e_len1, e_isX, e_meC, e_meJ, e_meS, e_isn1', e_nisn1', non_non, non_exc, non_int, non_lst, s_try', s_tryN, s_raise', seq_err, out_err, bind_err, waits_ok h1 h2 c0 c1, rngD_ii 0 (n : Int) (by omega)]
    rw [c_flt (inO one other (cn 0 m) (cn 1 m)) (by rw [rngI_len]; omega)]
    · simp only [pvL, mkFn, gt, st, wipeE, List.length_cons, List.length_nil, List.replicate, List.map_cons, List.map_nil, List.cons_append, List.nil_append, List.append_nil, List.getD_cons_zero, List.getD_cons_succ, Nat.reduceAdd, Nat.reduceSub, Nat.reduceLT, if_true, ite_true, ite_false, reduceIte, Option.map_some, pfL, e_cmpc, e_cmpc1, e_cmpc2, e_fld, e_fld1, e_mcall, e_mc1, e_mc2, e_make, e_popc, e_pop1, e_lenr, e_len1, e_isX, e_meC, e_meJ, e_meS, e_isn1', e_nisn1', non_non, non_exc, non_int, non_lst, s_try', s_tryN, s_raise', seq_err, out_err, bind_err, depth_ok, sub0, sub1, gx6, cmp_ne_two, len_ok, kLen2_ok m.length hl, len_il, call_re (by decide) (read2 _), s1]
    · intro x hx
      simp only [pvL, mkFn, gt, st, wipeE, List.length_cons, List.length_nil, List.replicate, List.map_cons, List.map_nil, List.cons_append, List.nil_append, List.append_nil, List.getD_cons_zero, List.getD_cons_succ, Nat.reduceAdd, Nat.reduceSub, Nat.reduceLT, if_true, ite_true, ite_false, reduceIte, Option.map_some, pfL, e_cmpc, e_cmpc1, e_cmpc2, e_fld, e_fld1, e_mcall, e_mc1, e_mc2, e_make, e_popc, e_pop1, e_lenr, e_len1, e_isX, e_meC, e_meJ, e_meS, e_isn1', e_nisn1', non_non, non_exc, non_int, non_lst, s_try', s_tryN, s_raise', seq_err, out_err, bind_err, cmp_ne_bl]
      unfold inO
      cases decide (decide (x ∈ one.take (cn 0 m).toNat) = decide (x ∈ other.take (cn 1 m).toNat)) <;> rfl
  · intro x hx
    simp only [pvL, mkFn, gt, st, wipeE, List.length_cons, List.length_nil, List.replicate, List.map_cons, List.map_nil, List.cons_append, List.nil_append, List.append_nil, List.getD_cons_zero, List.getD_cons_succ, Nat.reduceAdd, Nat.reduceSub, Nat.reduceLT, if_true, ite_true, ite_false, reduceIte, Option.map_some, pfL, e_cmpc, e_cmpc1, e_cmpc2, e_fld, e_fld1, e_mcall, e_mc1, e_mc2, e_make, e_popc, e_pop1, e_lenr, e_len1, e_isX, e_meC, e_meJ, e_meS, e_isn1', e_nisn1', non_non, non_exc, non_int, non_lst, s_try', s_tryN, s_raise', seq_err, out_err, bind_err]
    unfold inB
    rfl
/-- how many were read -/
theorem in_len {n : Nat} (h1 : Full one n) (ha : 0 ≤ a) (hb : a ≤ n) : (((rngI 0 n).filter fun x => decide (x ∈ one.take a.toNat)).length : Int) = a := by
  have e : sortI (one.take a.toNat) = (rngI 0 n).filter fun x => decide (x ∈ one.take a.toNat) := sort_rng (h1.nodup.sublist (List.take_sublist ..)) fun x => by
    rw [decide_eq_true_eq]
    exact ⟨fun h => ⟨h1.mem.mp (List.mem_of_mem_take h), h⟩, fun h => h.2⟩
  rw [← e, sort_len, List.length_take, h1.len]; omega
theorem sum_len (l : List Int) : (l.filter (inO one other a b)).length + 2 * (l.filter (inB one other a b)).length = (l.filter fun x => decide (x ∈ one.take a.toNat)).length + (l.filter fun x => decide (x ∈ other.take b.toNat)).length := by
  induction l with
  | nil => rfl
  | cons x r ih =>
    simp only [List.filter_cons]
    unfold inO inB at *
    by_cases p : x ∈ one.take a.toNat <;> by_cases q : x ∈ other.take b.toNat <;> simp [p, q] at * <;> omega
theorem inB_le {n : Nat} (h1 : Full one n) (h2 : Full other n) (ha : 0 ≤ a) (hb : 0 ≤ b) (a1 : a ≤ n) (b1 : b ≤ n) : (((rngI 0 n).filter (inB one other a b)).length : Int) ≤ a ∧ (((rngI 0 n).filter (inB one other a b)).length : Int) ≤ b := by
  have e1 := in_len h1 ha a1
  have e2 := in_len h2 hb b1
  have l1 : ∀ l : List Int, (l.filter (inB one other a b)).length ≤ (l.filter fun x => decide (x ∈ one.take a.toNat)).length ∧ (l.filter (inB one other a b)).length ≤ (l.filter fun x => decide (x ∈ other.take b.toNat)).length := by
    intro l
    induction l with
    | nil => exact ⟨Nat.le_refl _, Nat.le_refl _⟩
    | cons x r ih =>
      simp only [List.filter_cons]
      unfold inB at *
      by_cases p : x ∈ one.take a.toNat <;> by_cases q : x ∈ other.take b.toNat <;> simp [p, q] at * <;> omega
  have := l1 (rngI 0 n)
  omega
theorem law_k11_true (ns : List Int) : ∃ g, F_law_k11 [.scr ns] [] = .ok (.bl true) g := by
  obtain ⟨n1, e1, p1⟩ := start_ok ns
  obtain ⟨v, n2, t2, e2, hv, p2⟩ := draw_ok n1 0 7 p1 (by omega) (by omega)
  obtain ⟨n, hn⟩ : ∃ n : Nat, 1 + v = n := ⟨(1 + v).toNat, by omega⟩
  obtain ⟨one, n3, t3, e3, f3, p3⟩ := list_ok n2 t2 n (by omega) (by omega)
  obtain ⟨other, n4, t4, e4, f4, p4⟩ := list_ok n3 t3 n (by omega) (by omega)
  have h1 : Full one n := ⟨f3, by omega, by omega⟩
  have h2 : Full other n := ⟨f4, by omega, by omega⟩
  have nl1 : nolistL (ii one) = true := by
    have : ∀ l : List Int, nolistL (ii l) = true := fun l => by
      induction l with
      | nil => rfl
      | cons x r ih => simpa [ii, nolistL, nolist] using ih
    exact this one
  have nl2 : nolistL (ii other) = true := by
    have : ∀ l : List Int, nolistL (ii l) = true := fun l => by
      induction l with
      | nil => rfl
      | cons x r ih => simpa [ii, nolistL, nolist] using ih
    exact this other
  have mk : F_Reader___init__ [il one, il other] (dw n4 t4) = .ok (.ins rf) (dw n4 t4 ++ [.lst (ii one), .lst (ii other), .lst [.int 0, .int 0], .lst []]) := by
    unfold F_Reader___init__ mkRd
    simp only [check_both_ok (dw n4 t4) h1 h2, Res.bind, nl1, nl2, Bool.and_self, if_true]
    rfl
  obtain ⟨e', g', qq, n5, t5, m, v7, v8, v9, v10, v11, v12, hp, hm, rfl, rfl⟩ := for_chk (f := forF T11 (.one 7) (.cons step11 chk11)) (φ := D.int)
    (J := fun e g => ∃ n5 t5 m v7 v8 v9 v10 v11 v12, 0 < n5.length ∧ Made m n ∧ g = gm n5 t5 one other m ∧ e = [some (.scr ns), some (.cell 1), some (.int n), some (.lst [il one, il other]), some (.ins rf), some (.cell 6), some (il m), v7, v8, v9, v10, v11, v12])
    (rngI 0 20) [some (.scr ns), some (.cell 1), some (.int n), some (.lst [il one, il other]), some (.ins rf), some (.cell 6), some (il []), none, none, none, none, none, none] (gm n4 t4 one other [])
    ⟨n4, t4, [], none, none, none, none, none, none, by omega, ⟨by simp [cn], by simp [cn], fun x h => by simp at h⟩, rfl, rfl⟩ (by
      rintro x hx e g ⟨n5, t5, m, v7, v8, v9, v10, v11, v12, hp, hm, rfl, rfl⟩
      obtain ⟨n6, t6, m', w8, w9, hl, hm', q1⟩ := step11_ok h1 h2 hm hp (ns := n5) (t := t5) (some (.scr ns)) (some (.int x)) v8 v9 v10 v11 v12
      obtain ⟨w10, w11, q2⟩ := chk11_ok h1 h2 hm' (ns := n6) (t := t6) (some (.scr ns)) (some (.int x)) w8 w9 v10 v11 v12
      refine ⟨_, _, ?_, n6, t6, m', some (.int x), w8, w9, w10, w11, v12, by omega, hm', rfl, rfl⟩
      show (evS T11 step11 [some (.scr ns), some (.cell 1), some (.int n), some (.lst [il one, il other]), some (.ins rf), some (.cell 6), some (il m), some (.int x), v8, v9, v10, v11, v12] (gm n5 t5 one other m)).seq (fun e g => evS T11 chk11 e g) = _
      rw [q1]
      exact q2)
  refine ⟨gm n5 t5 one other m, ?_⟩
  have c0 := cn_nn 0 m
  have c1 := cn_nn 1 m
  have q0 := hm.le0
  have q1 := hm.le1
  have i1 := in_len h1 c0 q0
  have i2 := in_len h2 c1 q1
  have sl := sum_len (one := one) (other := other) (a := cn 0 m) (b := cn 1 m) (rngI 0 n)
  obtain ⟨b1, b2⟩ := inB_le h1 h2 c0 c1 q0 q1
  have min2 : b1D .min (.lst [.int (cn 0 m), .int (cn 1 m)]) = some (.int (if cn 0 m ≤ cn 1 m then cn 0 m else cn 1 m)) := rfl
  have sum2 : b1D .sum (.lst [.int (cn 0 m), .int (cn 1 m)]) = some (.int (cn 0 m + cn 1 m)) := by
    show some (D.int ([cn 0 m, cn 1 m].sum)) = _
    simp
  have d1 : decide (((List.filter (inB one other (cn 0 m) (cn 1 m)) (rngI 0 ↑n)).length : Int) ≤ if cn 0 m ≤ cn 1 m then cn 0 m else cn 1 m) = true := by
    refine decide_eq_true ?_
    split <;> assumption
  have d2 : decide (((List.filter (inO one other (cn 0 m) (cn 1 m)) (rngI 0 ↑n)).length : Int) + 2 * ((List.filter (inB one other (cn 0 m) (cn 1 m)) (rngI 0 ↑n)).length : Int) = cn 0 m + cn 1 m) = true := decide_eq_true (by omega)
  have cl : (dw n4 t4 ++ [Cl.lst (ii one), .lst (ii other), .lst [.int 0, .int 0], .lst []]).length = 6 := rfl
  have gm0 : dw n4 t4 ++ [Cl.lst (ii one), .lst (ii other), .lst [.int 0, .int 0], .lst []] ++ [Cl.lst [.int 0, .int 0]] = gm n4 t4 one other [] := rfl
  have ecl : ∀ T e, evE T (.clist (.cons (.lit (.int 0)) (.cons (.lit (.int 0)) .nil))) e (dw n4 t4 ++ [Cl.lst (ii one), .lst (ii other), .lst [.int 0, .int 0], .lst []]) = .ok (.cell 6) (gm n4 t4 one other []) := fun T e => rfl
  rw [show T11 = [F_Reader_waits, F_Reader_seen, F__law_call_k11, F_Reader___len__, F_Reader_depth, F__law_draw, F_Reader___init__, F__law_list, F__law_start] from rfl] at qq
  unfold step11 chk11 at qq
  unfold F_law_k11 b_law_k11
  simp only [pvL, mkFn, gt, st, wipeE, List.length_cons, List.length_nil, List.replicate, List.map_cons, List.map_nil, List.cons_append, List.nil_append, List.append_nil, List.getD_cons_zero, List.getD_cons_succ, Nat.reduceAdd, Nat.reduceSub, Nat.reduceLT, if_true, ite_true, ite_false, reduceIte, Option.map_some, pfL, e_cmpc, e_cmpc1, e_cmpc2, e_fld, e_fld1, e_mcall, e_mc1, e_mc2, e_make, e_popc, e_pop1, e_lenr, e_len1, e_isX, e_meC, e_meJ, e_meS, e_isn1', e_nisn1', non_non, non_exc, non_int, non_lst, s_try', s_tryN, s_raise', seq_err, out_err, bind_err, e1, e2, hn, e3, e4, sub0, sub1, mk, ecl, rngD_ii 0 20 (by omega)]
  rw [show ii (rngI 0 20) = (rngI 0 20).map D.int from rfl, qq]
  unfold gm
  simp only [pvL, mkFn, gt, st, wipeE, List.length_cons, List.length_nil, List.replicate, List.map_cons, List.map_nil, List.cons_append, List.nil_append, List.append_nil, List.getD_cons_zero, List.getD_cons_succ, Nat.reduceAdd, Nat.reduceSub, Nat.reduceLT, if_true, ite_true, ite_false, reduceIte, Option.map_some, pfL, e_cmpc, e_cmpc1, e_cmpc2, e_fld, e_fld1, e_mcall, e_mc1, e_mc2, e_make, e_popc, e_pop1, e_lenr, e_len1, e_isX, e_meC, e_meJ, e_meS, e_isn1', e_nisn1', non_non, non_exc, non_int, non_lst, s_try', s_tryN, s_raise', seq_err, out_err, bind_err, seen_ok h1 h2 c0 c1, waits_ok h1 h2 c0 c1, gx6, min2, sum2, len_il, bin_mul 2 _ (.inl (by omega)), d1, d2]
end Tv.P

set_option maxHeartbeats 0
namespace Tv
open PySem PySem.Spec PyProof.Rows L2
def Fr : List Str := ["ValueError", "all", "bool", "int", "isinstance", "len", "list", "min", "range", "set", "sorted", "sum", "tuple"]
def Co : List (Str × D) := [("MOST_THINGS", .int 7)]
def ClL : List Str := ["BadList", "BadNumber", "BadRow", "BadShort", "BadText", "NotFound"]
def top (i : Nat) : Stmt := PySem.Challenge.pw_toplists_k11_whole_readers.main.body.getD i (.Pass ⟨0, 0, 0, 0⟩)
theorem sc_Reader_waits : FnScope ["self", "first", "second", "thing"] ["self"] (defScope (clsS (top 14) 3)) := ⟨rfl, rfl, rfl, by decide +kernel, rfl, by decide +kernel, by decide +kernel⟩
theorem mt_Reader_waits : mtSs ⟨["self", "first", "second", "thing"], defScope (clsS (top 14) 3), fun _ => true, [], [], Fr, Co, ClL, [], [], true, true⟩ b_Reader_waits (defBody (clsS (top 14) 3)) = true := by decide +kernel
theorem sc_Reader_seen : FnScope ["self", "first", "second", "thing"] ["self"] (defScope (clsS (top 14) 2)) := ⟨rfl, rfl, rfl, by decide +kernel, rfl, by decide +kernel, by decide +kernel⟩
theorem mt_Reader_seen : mtSs ⟨["self", "first", "second", "thing"], defScope (clsS (top 14) 2), fun _ => true, [], [], Fr, Co, ClL, [], [], true, true⟩ b_Reader_seen (defBody (clsS (top 14) 2)) = true := by decide +kernel
theorem sc__law_error : FnScope ["_law_caught", "_law_kinds"] ["_law_caught"] (defScope (top 19)) := ⟨rfl, rfl, rfl, by decide +kernel, rfl, by decide +kernel, by decide +kernel⟩
theorem mt__law_error : mtSs ⟨["_law_caught", "_law_kinds"], defScope (top 19), fun _ => true, [], [], Fr, Co, ClL, [], [], true, true⟩ b__law_error (defBody (top 19)) = true := by decide +kernel
theorem sc_is_int : FnScope ["value", "low", "high"] ["value", "low", "high"] (defScope (top 9)) := ⟨rfl, rfl, rfl, by decide +kernel, rfl, by decide +kernel, by decide +kernel⟩
theorem mt_is_int : mtSs ⟨["value", "low", "high"], defScope (top 9), fun _ => true, [], [], Fr, Co, ClL, [], [], true, true⟩ b_is_int (defBody (top 9)) = true := by decide +kernel
theorem sc_Reader_read : FnScope ["self", "which"] ["self", "which"] (defScope (clsS (top 14) 1)) := ⟨rfl, rfl, rfl, by decide +kernel, rfl, by decide +kernel, by decide +kernel⟩
theorem mt_Reader_read : mtSs ⟨["self", "which"], defScope (clsS (top 14) 1), fun _ => true, [], ["is_int"], Fr, Co, ClL, [], [], true, true⟩ b_Reader_read (defBody (clsS (top 14) 1)) = true := by decide +kernel
theorem sc_Reader_undo : FnScope ["self", "which"] ["self"] (defScope (clsS (top 14) 5)) := ⟨rfl, rfl, rfl, by decide +kernel, rfl, by decide +kernel, by decide +kernel⟩
theorem mt_Reader_undo : mtSs ⟨["self", "which"], defScope (clsS (top 14) 5), fun _ => true, [], [], Fr, Co, ClL, [], [], true, true⟩ b_Reader_undo (defBody (clsS (top 14) 5)) = true := by decide +kernel
theorem sc__law_call_k11 : FnScope ["_law_shown", "_law_kind", "_law_which", "_law_found", "_law_caught", "e"] ["_law_shown", "_law_kind", "_law_which"] (defScope (top 21)) := ⟨rfl, rfl, rfl, by decide +kernel, rfl, by decide +kernel, by decide +kernel⟩
theorem mt__law_call_k11 : mtSs ⟨["_law_shown", "_law_kind", "_law_which", "_law_found", "_law_caught", "e"], defScope (top 21), fun _ => true, [], ["_law_error", "", ""], Fr, Co, ClL, [(1, "read"), (2, "undo")], [], true, true⟩ b__law_call_k11 (defBody (top 21)) = true := by decide +kernel
theorem sc_Reader___len__ : FnScope ["self"] ["self"] (defScope (clsS (top 14) 6)) := ⟨rfl, rfl, rfl, by decide +kernel, rfl, by decide +kernel, by decide +kernel⟩
theorem mt_Reader___len__ : mtSs ⟨["self"], defScope (clsS (top 14) 6), fun _ => true, [], [], Fr, Co, ClL, [], [], true, true⟩ b_Reader___len__ (defBody (clsS (top 14) 6)) = true := by decide +kernel
theorem sc_Reader_depth : FnScope ["self"] ["self"] (defScope (clsS (top 14) 4)) := ⟨rfl, rfl, rfl, by decide +kernel, rfl, by decide +kernel, by decide +kernel⟩
theorem mt_Reader_depth : mtSs ⟨["self"], defScope (clsS (top 14) 4), fun _ => true, [], [], Fr, Co, ClL, [], [], true, true⟩ b_Reader_depth (defBody (clsS (top 14) 4)) = true := by decide +kernel
theorem sc__law_draw : FnScope ["_law_draws", "_law_limit", "_law_numbers", "_law_at", "_law_cell", "_law_mixed"] ["_law_draws", "_law_limit"] (defScope (top 17)) := ⟨rfl, rfl, rfl, by decide +kernel, rfl, by decide +kernel, by decide +kernel⟩
theorem mt__law_draw : mtSs ⟨["_law_draws", "_law_limit", "_law_numbers", "_law_at", "_law_cell", "_law_mixed"], defScope (top 17), fun _ => true, [], [], Fr, Co, ClL, [], [], true, true⟩ b__law_draw (defBody (top 17)) = true := by decide +kernel
theorem sc_is_full : FnScope ["value", "thing"] ["value"] (defScope (top 10)) := ⟨rfl, rfl, rfl, by decide +kernel, rfl, by decide +kernel, by decide +kernel⟩
theorem mt_is_full : mtSs ⟨["value", "thing"], defScope (top 10), fun _ => true, [], ["is_int"], Fr, Co, ClL, [], [], true, true⟩ b_is_full (defBody (top 10)) = true := by decide +kernel
theorem sc_check_full : FnScope ["value"] ["value"] (defScope (top 11)) := ⟨rfl, rfl, rfl, by decide +kernel, rfl, by decide +kernel, by decide +kernel⟩
theorem mt_check_full : mtSs ⟨["value"], defScope (top 11), fun _ => true, [], ["is_full"], Fr, Co, ClL, [], [], true, true⟩ b_check_full (defBody (top 11)) = true := by decide +kernel
theorem sc_check_both : FnScope ["one", "other"] ["one", "other"] (defScope (top 12)) := ⟨rfl, rfl, rfl, by decide +kernel, rfl, by decide +kernel, by decide +kernel⟩
theorem mt_check_both : mtSs ⟨["one", "other"], defScope (top 12), fun _ => true, [], ["check_full"], Fr, Co, ClL, [], [], true, true⟩ b_check_both (defBody (top 12)) = true := by decide +kernel
theorem sc_Reader___init__ : FnScope ["self", "one", "other"] ["self", "one", "other"] (defScope (clsS (top 14) 0)) := ⟨rfl, rfl, rfl, by decide +kernel, rfl, by decide +kernel, by decide +kernel⟩
theorem mt_Reader___init__ : mtInit ⟨["self", "one", "other"], defScope (clsS (top 14) 0), fun _ => true, [], ["check_both"], Fr, Co, ClL, [], [], true, true⟩ 0 (defBody (clsS (top 14) 0)) = true := by decide +kernel
theorem sc__law_pick : FnScope ["_law_draws", "_law_choices"] ["_law_draws", "_law_choices"] (defScope (top 18)) := ⟨rfl, rfl, rfl, by decide +kernel, rfl, by decide +kernel, by decide +kernel⟩
theorem mt__law_pick : mtSs ⟨["_law_draws", "_law_choices"], defScope (top 18), fun _ => true, [], ["_law_draw"], Fr, Co, ClL, [], [], true, true⟩ b__law_pick (defBody (top 18)) = true := by decide +kernel
theorem sc__law_list : FnScope ["_law_draws", "_law_size", "_law_left", "_law_found", "_law_thing"] ["_law_draws", "_law_size"] (defScope (top 20)) := ⟨rfl, rfl, rfl, by decide +kernel, rfl, by decide +kernel, by decide +kernel⟩
theorem mt__law_list : mtSs ⟨["_law_draws", "_law_size", "_law_left", "_law_found", "_law_thing"], defScope (top 20), fun _ => true, [2, 3], ["_law_draw", "_law_pick"], Fr, Co, ClL, [], [], true, true⟩ b__law_list (defBody (top 20)) = true := by decide +kernel
theorem sc__law_start : FnScope ["_law_script"] ["_law_script"] (defScope (top 16)) := ⟨rfl, rfl, rfl, by decide +kernel, rfl, by decide +kernel, by decide +kernel⟩
theorem mt__law_start : mtSs ⟨["_law_script"], defScope (top 16), fun _ => true, [], [], Fr, Co, ClL, [], [], true, true⟩ b__law_start (defBody (top 16)) = true := by decide +kernel
theorem sc_law_k11 : FnScope ["_law_script", "_law_draws", "_law_size", "_law_lists", "_law_shown", "_law_depths", "_law_made", "_law_turn", "_law_which", "_law_told", "_law_first", "_law_last", "_law_thing"] ["_law_script"] (defScope (top 22)) := ⟨rfl, rfl, rfl, by decide +kernel, rfl, by decide +kernel, by decide +kernel⟩
theorem mt_law_k11 : mtSs ⟨["_law_script", "_law_draws", "_law_size", "_law_lists", "_law_shown", "_law_depths", "_law_made", "_law_turn", "_law_which", "_law_told", "_law_first", "_law_last", "_law_thing"], defScope (top 22), fun _ => true, [], ["", "", "_law_call", "", "", "_law_draw", "", "_law_list", "_law_start"], Fr, Co, ClL, [(0, "waits"), (1, "seen"), (3, "__len__"), (4, "depth")], [(6, "Reader")], true, true⟩ b_law_k11 (defBody (top 22)) = true := by decide +kernel
def d_is_int : He.DefD := ⟨("is_int", none), "is_int", "is_int", defArgs (top 9), defBody (top 9), defScope (top 9), [], []⟩
def d_is_full : He.DefD := ⟨("is_full", none), "is_full", "is_full", defArgs (top 10), defBody (top 10), defScope (top 10), [], []⟩
def d_check_full : He.DefD := ⟨("check_full", none), "check_full", "check_full", defArgs (top 11), defBody (top 11), defScope (top 11), [], []⟩
def d_check_both : He.DefD := ⟨("check_both", none), "check_both", "check_both", defArgs (top 12), defBody (top 12), defScope (top 12), [], []⟩
def d__law_start : He.DefD := ⟨("_law_start", none), "_law_start", "_law_start", defArgs (top 16), defBody (top 16), defScope (top 16), [], []⟩
def d__law_draw : He.DefD := ⟨("_law_draw", none), "_law_draw", "_law_draw", defArgs (top 17), defBody (top 17), defScope (top 17), [], []⟩
def d__law_pick : He.DefD := ⟨("_law_pick", none), "_law_pick", "_law_pick", defArgs (top 18), defBody (top 18), defScope (top 18), [], []⟩
def d__law_error : He.DefD := ⟨("_law_error", none), "_law_error", "_law_error", defArgs (top 19), defBody (top 19), defScope (top 19), [], []⟩
def d__law_list : He.DefD := ⟨("_law_list", none), "_law_list", "_law_list", defArgs (top 20), defBody (top 20), defScope (top 20), [], []⟩
def d__law_call : He.DefD := ⟨("_law_call", none), "_law_call", "_law_call", defArgs (top 21), defBody (top 21), defScope (top 21), [], []⟩
def d_law : He.DefD := ⟨("law", none), "law", "law", defArgs (top 22), defBody (top 22), defScope (top 22), [], []⟩
def d_Reader___init__ : He.DefD := ⟨("Reader", some "__init__"), "__init__", "Reader.__init__", defArgs (clsS (top 14) 0), defBody (clsS (top 14) 0), defScope (clsS (top 14) 0), [], []⟩
def d_Reader_read : He.DefD := ⟨("Reader", some "read"), "read", "Reader.read", defArgs (clsS (top 14) 1), defBody (clsS (top 14) 1), defScope (clsS (top 14) 1), [], []⟩
def d_Reader_seen : He.DefD := ⟨("Reader", some "seen"), "seen", "Reader.seen", defArgs (clsS (top 14) 2), defBody (clsS (top 14) 2), defScope (clsS (top 14) 2), [], []⟩
def d_Reader_waits : He.DefD := ⟨("Reader", some "waits"), "waits", "Reader.waits", defArgs (clsS (top 14) 3), defBody (clsS (top 14) 3), defScope (clsS (top 14) 3), [], []⟩
def d_Reader_depth : He.DefD := ⟨("Reader", some "depth"), "depth", "Reader.depth", defArgs (clsS (top 14) 4), defBody (clsS (top 14) 4), defScope (clsS (top 14) 4), [], []⟩
def d_Reader_undo : He.DefD := ⟨("Reader", some "undo"), "undo", "Reader.undo", defArgs (clsS (top 14) 5), defBody (clsS (top 14) 5), defScope (clsS (top 14) 5), [], []⟩
def d_Reader___len__ : He.DefD := ⟨("Reader", some "__len__"), "__len__", "Reader.__len__", defArgs (clsS (top 14) 6), defBody (clsS (top 14) 6), defScope (clsS (top 14) 6), [], []⟩
def fn : List He.DefD := [d_is_int, d_is_full, d_check_full, d_check_both, d__law_start, d__law_draw, d__law_pick, d__law_error, d__law_list, d__law_call, d_law, d_Reader___init__, d_Reader_read, d_Reader_seen, d_Reader_waits, d_Reader_depth, d_Reader_undo, d_Reader___len__]
def fa : List He.Fa := [.glo "is_int", .glo "is_full", .glo "check_full", .glo "check_both", .glo "_law_start", .glo "_law_draw", .glo "_law_pick", .glo "_law_error", .glo "_law_list", .glo "_law_call", .glo "law", .glo "BadList", .glo "BadNumber", .glo "BadRow", .glo "BadShort", .glo "BadText", .glo "NotFound", .glo "ListError", .exc "BadList", .exc "BadNumber", .exc "BadRow", .exc "BadShort", .exc "BadText", .exc "NotFound", .free "ValueError", .free "all", .free "bool", .free "int", .free "isinstance", .free "len", .free "list", .free "min", .free "range", .free "set", .free "sorted", .free "sum", .free "tuple", .int "MOST_THINGS" 7, .glo "Reader", .cls "Reader", .mkr "Reader", .noat "Reader" "lists", .noat "Reader" "depths", .noat "Reader" "made", .meth "Reader" "read", .meth "Reader" "seen", .meth "Reader" "waits", .meth "Reader" "depth", .meth "Reader" "undo", .meth "Reader" "__len__"]
def loose : List Str := (["__name__", "ListError", "BadList", "BadNumber", "BadRow", "BadShort", "BadText", "NotFound", "MOST_THINGS", "is_int", "is_full", "check_full", "check_both", "Reader", "_law_start", "_law_draw", "_law_pick", "_law_error", "_law_list", "_law_call"] : List Str)
abbrev R : PySem.W.OpenRow := PySem.W.OpenLaw.row PySem.Challenge.rw_toplists_k11_whole_readers
abbrev hk : PySem.W.Hook := hookY 6 fa fn true
def ob (s : PySem.W.SharedT) : AlY := obsY 6 fa fn true (HandSHeadRun.getT s)
theorem ob_eq (s : PySem.W.SharedT) : ob s = hk.obs s.abs := obsY_eq (HandSHeadRun.getT_eq s)
theorem run (w : World) : HandSHeadRun.RunEq R (PySem.W.view R.prog [22]) hk ob 4000 loose w := by
  intro os
  kernel_rfl
section
variable {P : Program} {w : World} {K : PySem.W.Frag} {h : Heap} {mg : Str → Option Value} {f : Addr}
theorem wd (X : K.In h) (G : h.Ns mainGlobals mg) (c : SaysY fa fn true K) (base : Heap) : Wd P w K mg base (XRL (cvL K)) (cvL K) Fr Co ClL true true where
  xr := xrl_ok _
  rdA := xrl_rd
  cls := fun n f h hne => by
    match n, h with
    | 0, h => cases h; exact cls_of (by decide) rfl (c.d.fact 18 (f := .exc "BadList") rfl) (He.glo_ok X G (c.d.fact 11 (f := .glo "BadList") rfl))
    | 1, h => cases h; exact cls_of (by decide) rfl (c.d.fact 19 (f := .exc "BadNumber") rfl) (He.glo_ok X G (c.d.fact 12 (f := .glo "BadNumber") rfl))
    | 2, h => cases h; exact cls_of (by decide) rfl (c.d.fact 20 (f := .exc "BadRow") rfl) (He.glo_ok X G (c.d.fact 13 (f := .glo "BadRow") rfl))
    | 3, h => cases h; exact cls_of (by decide) rfl (c.d.fact 21 (f := .exc "BadShort") rfl) (He.glo_ok X G (c.d.fact 14 (f := .glo "BadShort") rfl))
    | 4, h => cases h; exact cls_of (by decide) rfl (c.d.fact 22 (f := .exc "BadText") rfl) (He.glo_ok X G (c.d.fact 15 (f := .glo "BadText") rfl))
    | 5, h => cases h; exact cls_of (by decide) rfl (c.d.fact 23 (f := .exc "NotFound") rfl) (He.glo_ok X G (c.d.fact 16 (f := .glo "NotFound") rfl))
    | n + 6, h => simp [ClL] at h
  fld := fun _ => ⟨_, rfl, He.cls_ok (c.d.fact 39 (f := .cls "Reader") rfl), fun f hf => by
    simp only [rdF, List.mem_cons, List.not_mem_nil, or_false] at hf
    rcases hf with rfl | rfl | rfl
    · exact He.noat_ok (c.d.fact 41 (f := .noat "Reader" "lists") rfl)
    · exact He.noat_ok (c.d.fact 42 (f := .noat "Reader" "depths") rfl)
    · exact He.noat_ok (c.d.fact 43 (f := .noat "Reader" "made") rfl)⟩
  tr := fun _ => tr_ok (c.x rfl) fun n hn => by
    match n, hn with
    | 0, _ => exact (He.glo_ok X G (c.d.fact 11 (f := .glo "BadList") rfl))
    | 1, _ => exact (He.glo_ok X G (c.d.fact 12 (f := .glo "BadNumber") rfl))
    | 2, _ => exact (He.glo_ok X G (c.d.fact 13 (f := .glo "BadRow") rfl))
    | 3, _ => exact (He.glo_ok X G (c.d.fact 14 (f := .glo "BadShort") rfl))
    | 4, _ => exact (He.glo_ok X G (c.d.fact 15 (f := .glo "BadText") rfl))
    | 5, _ => exact (He.glo_ok X G (c.d.fact 16 (f := .glo "NotFound") rfl))
    | 6, _ => exact (He.glo_ok X G (c.d.fact 17 (f := .glo "ListError") rfl))
    | n + 7, h => omega
  free := fun x hx => by
    simp only [Fr, List.mem_cons, List.not_mem_nil, or_false] at hx
    rcases hx with rfl | rfl | rfl | rfl | rfl | rfl | rfl | rfl | rfl | rfl | rfl | rfl | rfl
    · exact He.free_ok X G (c.d.fact 24 (f := .free "ValueError") rfl)
    · exact He.free_ok X G (c.d.fact 25 (f := .free "all") rfl)
    · exact He.free_ok X G (c.d.fact 26 (f := .free "bool") rfl)
    · exact He.free_ok X G (c.d.fact 27 (f := .free "int") rfl)
    · exact He.free_ok X G (c.d.fact 28 (f := .free "isinstance") rfl)
    · exact He.free_ok X G (c.d.fact 29 (f := .free "len") rfl)
    · exact He.free_ok X G (c.d.fact 30 (f := .free "list") rfl)
    · exact He.free_ok X G (c.d.fact 31 (f := .free "min") rfl)
    · exact He.free_ok X G (c.d.fact 32 (f := .free "range") rfl)
    · exact He.free_ok X G (c.d.fact 33 (f := .free "set") rfl)
    · exact He.free_ok X G (c.d.fact 34 (f := .free "sorted") rfl)
    · exact He.free_ok X G (c.d.fact 35 (f := .free "sum") rfl)
    · exact He.free_ok X G (c.d.fact 36 (f := .free "tuple") rfl)
  cons := fun p hp => by
    simp only [Co, List.mem_cons, List.not_mem_nil, or_false] at hp
    rcases hp with rfl
    · obtain ⟨t, e⟩ := He.int_ok X G (c.d.fact 37 (f := .int "MOST_THINGS" 7) rfl)
      exact ⟨_, .int 7, e, ⟨t, rfl⟩, rfl, fun _ _ _ _ _ => .int⟩
theorem facts (X : K.In h) (G : h.Ns mainGlobals mg) (hfa : mg ("law" : Str) = some (.ref f)) (c : SaysY fa fn true K) :
    ∃ fd : FuncData, (∀ (s : Shared) (v : Value), BindsTo s fd ⟨[v], []⟩ [("_law_script", v)]) ∧ ∀ base : Heap, K.In base → base.Ns mainGlobals mg → FnOk P w K mg base (L2.CX P w) 7 f fd ["_law_script"] (spF K (XRL (cvL K)) (cvL K) 1 F_law_k11) := by
  obtain ⟨fd_Reader_waits, D_Reader_waits⟩ := c.d.def_ 14 (d := d_Reader_waits) rfl
  have B_Reader_waits : Binds K fd_Reader_waits ["self"] [] := FunD.bindsN D_Reader_waits fun _ _ _ _ _ _ us hl => match us, hl with | [_], _ => rfl
  have C_Reader_waits : ∀ base, MethK P w K mg base (XRL (cvL K)) (cvL K) 2 "waits" F_Reader_waits := fun base => def_meth (k := 0) D_Reader_waits sc_Reader_waits (wd X G c base) mt_Reader_waits (by decide) calls_nil ms_nil mk_nil rfl (He.cls_ok (c.d.fact 39 (f := .cls "Reader") rfl)) (He.meth_ok (c.d.fact 46 (f := .meth "Reader" "waits") rfl)) (by decide) B_Reader_waits
  obtain ⟨fd_Reader_seen, D_Reader_seen⟩ := c.d.def_ 13 (d := d_Reader_seen) rfl
  have B_Reader_seen : Binds K fd_Reader_seen ["self"] [] := FunD.bindsN D_Reader_seen fun _ _ _ _ _ _ us hl => match us, hl with | [_], _ => rfl
  have C_Reader_seen : ∀ base, MethK P w K mg base (XRL (cvL K)) (cvL K) 2 "seen" F_Reader_seen := fun base => def_meth (k := 0) D_Reader_seen sc_Reader_seen (wd X G c base) mt_Reader_seen (by decide) calls_nil ms_nil mk_nil rfl (He.cls_ok (c.d.fact 39 (f := .cls "Reader") rfl)) (He.meth_ok (c.d.fact 45 (f := .meth "Reader" "seen") rfl)) (by decide) B_Reader_seen
  obtain ⟨fd__law_error, D__law_error⟩ := c.d.def_ 7 (d := d__law_error) rfl
  have B__law_error : Binds K fd__law_error ["_law_caught"] [] := FunD.bindsN D__law_error fun _ _ _ _ _ _ us hl => match us, hl with | [_], _ => rfl
  have C__law_error : ∀ base, CallK P w K mg base (XRL (cvL K)) (cvL K) 1 "_law_error" F__law_error := fun base => def_call (k := 0) D__law_error sc__law_error (wd X G c base) mt__law_error (by decide) calls_nil ms_nil mk_nil (He.glo_ok X G (c.d.fact 7 (f := .glo "_law_error") rfl)) B__law_error
  obtain ⟨fd_is_int, D_is_int⟩ := c.d.def_ 0 (d := d_is_int) rfl
  have B_is_int : Binds K fd_is_int ["value", "low", "high"] [] := FunD.bindsN D_is_int fun _ _ _ _ _ _ us hl => match us, hl with | [_, _, _], _ => rfl
  have C_is_int : ∀ base, CallK P w K mg base (XRL (cvL K)) (cvL K) 1 "is_int" F_is_int := fun base => def_call (k := 0) D_is_int sc_is_int (wd X G c base) mt_is_int (by decide) calls_nil ms_nil mk_nil (He.glo_ok X G (c.d.fact 0 (f := .glo "is_int") rfl)) B_is_int
  obtain ⟨fd_Reader_read, D_Reader_read⟩ := c.d.def_ 12 (d := d_Reader_read) rfl
  have B_Reader_read : Binds K fd_Reader_read ["self", "which"] [] := FunD.bindsN D_Reader_read fun _ _ _ _ _ _ us hl => match us, hl with | [_, _], _ => rfl
  have C_Reader_read : ∀ base, MethK P w K mg base (XRL (cvL K)) (cvL K) 3 "read" F_Reader_read := fun base => def_meth (k := 1) D_Reader_read sc_Reader_read (wd X G c base) mt_Reader_read (by decide) (calls_cons (C_is_int base) (by decide) calls_nil) ms_nil mk_nil rfl (He.cls_ok (c.d.fact 39 (f := .cls "Reader") rfl)) (He.meth_ok (c.d.fact 44 (f := .meth "Reader" "read") rfl)) (by decide) B_Reader_read
  obtain ⟨fd_Reader_undo, D_Reader_undo⟩ := c.d.def_ 16 (d := d_Reader_undo) rfl
  have B_Reader_undo : Binds K fd_Reader_undo ["self"] [] := FunD.bindsN D_Reader_undo fun _ _ _ _ _ _ us hl => match us, hl with | [_], _ => rfl
  have C_Reader_undo : ∀ base, MethK P w K mg base (XRL (cvL K)) (cvL K) 2 "undo" F_Reader_undo := fun base => def_meth (k := 0) D_Reader_undo sc_Reader_undo (wd X G c base) mt_Reader_undo (by decide) calls_nil ms_nil mk_nil rfl (He.cls_ok (c.d.fact 39 (f := .cls "Reader") rfl)) (He.meth_ok (c.d.fact 48 (f := .meth "Reader" "undo") rfl)) (by decide) B_Reader_undo
  obtain ⟨fd__law_call_k11, D__law_call_k11⟩ := c.d.def_ 9 (d := d__law_call) rfl
  have B__law_call_k11 : Binds K fd__law_call_k11 ["_law_shown", "_law_kind", "_law_which"] [] := FunD.bindsN D__law_call_k11 fun _ _ _ _ _ _ us hl => match us, hl with | [_, _, _], _ => rfl
  have C__law_call_k11 : ∀ base, CallK P w K mg base (XRL (cvL K)) (cvL K) 4 "_law_call" F__law_call_k11 := fun base => def_call (k := 3) D__law_call_k11 sc__law_call_k11 (wd X G c base) mt__law_call_k11 (by decide) (calls_cons (C__law_error base) (by decide) (calls_skip (calls_skip calls_nil))) (ms_cons (C_Reader_read base) (by decide) rfl (ms_cons (C_Reader_undo base) (by decide) rfl ms_nil)) mk_nil (He.glo_ok X G (c.d.fact 9 (f := .glo "_law_call") rfl)) B__law_call_k11
  obtain ⟨fd_Reader___len__, D_Reader___len__⟩ := c.d.def_ 17 (d := d_Reader___len__) rfl
  have B_Reader___len__ : Binds K fd_Reader___len__ ["self"] [] := FunD.bindsN D_Reader___len__ fun _ _ _ _ _ _ us hl => match us, hl with | [_], _ => rfl
  have C_Reader___len__ : ∀ base, MethK P w K mg base (XRL (cvL K)) (cvL K) 2 "__len__" F_Reader___len__ := fun base => def_meth (k := 0) D_Reader___len__ sc_Reader___len__ (wd X G c base) mt_Reader___len__ (by decide) calls_nil ms_nil mk_nil rfl (He.cls_ok (c.d.fact 39 (f := .cls "Reader") rfl)) (He.meth_ok (c.d.fact 49 (f := .meth "Reader" "__len__") rfl)) (by decide) B_Reader___len__
  obtain ⟨fd_Reader_depth, D_Reader_depth⟩ := c.d.def_ 15 (d := d_Reader_depth) rfl
  have B_Reader_depth : Binds K fd_Reader_depth ["self"] [] := FunD.bindsN D_Reader_depth fun _ _ _ _ _ _ us hl => match us, hl with | [_], _ => rfl
  have C_Reader_depth : ∀ base, MethK P w K mg base (XRL (cvL K)) (cvL K) 2 "depth" F_Reader_depth := fun base => def_meth (k := 0) D_Reader_depth sc_Reader_depth (wd X G c base) mt_Reader_depth (by decide) calls_nil ms_nil mk_nil rfl (He.cls_ok (c.d.fact 39 (f := .cls "Reader") rfl)) (He.meth_ok (c.d.fact 47 (f := .meth "Reader" "depth") rfl)) (by decide) B_Reader_depth
  obtain ⟨fd__law_draw, D__law_draw⟩ := c.d.def_ 5 (d := d__law_draw) rfl
  have B__law_draw : Binds K fd__law_draw ["_law_draws", "_law_limit"] [] := FunD.bindsN D__law_draw fun _ _ _ _ _ _ us hl => match us, hl with | [_, _], _ => rfl
  have C__law_draw : ∀ base, CallK P w K mg base (XRL (cvL K)) (cvL K) 1 "_law_draw" F__law_draw := fun base => def_call (k := 0) D__law_draw sc__law_draw (wd X G c base) mt__law_draw (by decide) calls_nil ms_nil mk_nil (He.glo_ok X G (c.d.fact 5 (f := .glo "_law_draw") rfl)) B__law_draw
  obtain ⟨fd_is_full, D_is_full⟩ := c.d.def_ 1 (d := d_is_full) rfl
  have B_is_full : Binds K fd_is_full ["value"] [] := FunD.bindsN D_is_full fun _ _ _ _ _ _ us hl => match us, hl with | [_], _ => rfl
  have C_is_full : ∀ base, CallK P w K mg base (XRL (cvL K)) (cvL K) 2 "is_full" F_is_full := fun base => def_call (k := 1) D_is_full sc_is_full (wd X G c base) mt_is_full (by decide) (calls_cons (C_is_int base) (by decide) calls_nil) ms_nil mk_nil (He.glo_ok X G (c.d.fact 1 (f := .glo "is_full") rfl)) B_is_full
  obtain ⟨fd_check_full, D_check_full⟩ := c.d.def_ 2 (d := d_check_full) rfl
  have B_check_full : Binds K fd_check_full ["value"] [] := FunD.bindsN D_check_full fun _ _ _ _ _ _ us hl => match us, hl with | [_], _ => rfl
  have C_check_full : ∀ base, CallK P w K mg base (XRL (cvL K)) (cvL K) 3 "check_full" F_check_full := fun base => def_call (k := 2) D_check_full sc_check_full (wd X G c base) mt_check_full (by decide) (calls_cons (C_is_full base) (by decide) calls_nil) ms_nil mk_nil (He.glo_ok X G (c.d.fact 2 (f := .glo "check_full") rfl)) B_check_full
  obtain ⟨fd_check_both, D_check_both⟩ := c.d.def_ 3 (d := d_check_both) rfl
  have B_check_both : Binds K fd_check_both ["one", "other"] [] := FunD.bindsN D_check_both fun _ _ _ _ _ _ us hl => match us, hl with | [_, _], _ => rfl
  have C_check_both : ∀ base, CallK P w K mg base (XRL (cvL K)) (cvL K) 4 "check_both" F_check_both := fun base => def_call (k := 3) D_check_both sc_check_both (wd X G c base) mt_check_both (by decide) (calls_cons (C_check_full base) (by decide) calls_nil) ms_nil mk_nil (He.glo_ok X G (c.d.fact 3 (f := .glo "check_both") rfl)) B_check_both
  obtain ⟨fd_Reader___init__, D_Reader___init__⟩ := c.d.def_ 11 (d := d_Reader___init__) rfl
  have B_Reader___init__ : Binds K fd_Reader___init__ ["self", "one", "other"] [] := FunD.bindsN D_Reader___init__ fun _ _ _ _ _ _ us hl => match us, hl with | [_, _, _], _ => rfl
  have C_Reader___init__ : ∀ base, MakeK P w K mg base (XRL (cvL K)) (cvL K) 6 "Reader" F_Reader___init__ := fun base => ⟨5, _, _, _, _, Nat.le_refl _, (He.glo_ok X G (c.d.fact 38 (f := .glo "Reader") rfl)), He.mkr_ok (c.d.fact 40 (f := .mkr "Reader") rfl), B_Reader___init__, init_ok (k := 4) D_Reader___init__ sc_Reader___init__ rfl rfl (wd X G c base) mt_Reader___init__ (C_check_both base) (xrl_i _) rfl fun a H dx fs h => .inr ⟨rfl, _, _, _, rfl, h⟩⟩
  obtain ⟨fd__law_pick, D__law_pick⟩ := c.d.def_ 6 (d := d__law_pick) rfl
  have B__law_pick : Binds K fd__law_pick ["_law_draws", "_law_choices"] [] := FunD.bindsN D__law_pick fun _ _ _ _ _ _ us hl => match us, hl with | [_, _], _ => rfl
  have C__law_pick : ∀ base, CallK P w K mg base (XRL (cvL K)) (cvL K) 2 "_law_pick" F__law_pick := fun base => def_call (k := 1) D__law_pick sc__law_pick (wd X G c base) mt__law_pick (by decide) (calls_cons (C__law_draw base) (by decide) calls_nil) ms_nil mk_nil (He.glo_ok X G (c.d.fact 6 (f := .glo "_law_pick") rfl)) B__law_pick
  obtain ⟨fd__law_list, D__law_list⟩ := c.d.def_ 8 (d := d__law_list) rfl
  have B__law_list : Binds K fd__law_list ["_law_draws", "_law_size"] [] := FunD.bindsN D__law_list fun _ _ _ _ _ _ us hl => match us, hl with | [_, _], _ => rfl
  have C__law_list : ∀ base, CallK P w K mg base (XRL (cvL K)) (cvL K) 3 "_law_list" F__law_list := fun base => def_call (k := 2) D__law_list sc__law_list (wd X G c base) mt__law_list (by decide) (calls_cons (C__law_draw base) (by decide) (calls_cons (C__law_pick base) (by decide) calls_nil)) ms_nil mk_nil (He.glo_ok X G (c.d.fact 8 (f := .glo "_law_list") rfl)) B__law_list
  obtain ⟨fd__law_start, D__law_start⟩ := c.d.def_ 4 (d := d__law_start) rfl
  have B__law_start : Binds K fd__law_start ["_law_script"] [] := FunD.bindsN D__law_start fun _ _ _ _ _ _ us hl => match us, hl with | [_], _ => rfl
  have C__law_start : ∀ base, CallK P w K mg base (XRL (cvL K)) (cvL K) 1 "_law_start" F__law_start := fun base => def_call (k := 0) D__law_start sc__law_start (wd X G c base) mt__law_start (by decide) calls_nil ms_nil mk_nil (He.glo_ok X G (c.d.fact 4 (f := .glo "_law_start") rfl)) B__law_start
  obtain ⟨fd_law_k11, D_law_k11⟩ := c.d.def_ 10 (d := d_law) rfl
  have e := hfa.symm.trans (He.glo_ok X G (c.d.fact 10 (f := .glo "law") rfl))
  cases e
  have b := FunD.bindsA (ps := ["_law_script"]) D_law_k11 fun _ _ _ _ _ _ us hl => match us, hl with | [_], _ => rfl
  exact ⟨fd_law_k11, fun s v => b s [v] rfl, fun base _ _ => def_ok (k := 6) D_law_k11 sc_law_k11 (wd X G c base) mt_law_k11 (by decide) (calls_skip (calls_skip (calls_cons (C__law_call_k11 base) (by decide) (calls_skip (calls_skip (calls_cons (C__law_draw base) (by decide) (calls_skip (calls_cons (C__law_list base) (by decide) (calls_cons (C__law_start base) (by decide) calls_nil))))))))) (ms_cons (C_Reader_waits base) (by decide) rfl (ms_cons (C_Reader_seen base) (by decide) rfl (ms_cons (C_Reader___len__ base) (by decide) rfl (ms_cons (C_Reader_depth base) (by decide) rfl ms_nil)))) (mk_one (C_Reader___init__ base) (by decide) rfl)⟩
end
end Tv
open PySem PySem.W PySem.Calls PyProof.Rows
namespace Tv
theorem law_walked (hF : ∀ ns : List Int, ns.length ≤ 63 → ∃ g, F_law_k11 [.scr ns] [] = .ok (.bl true) g) : PySem.Challenge.rw_toplists_k11_whole_readers.Holds := by
  w_on; o_law
  refine HandSHeadRun.head_any (r := OpenLaw.row PySem.Challenge.rw_toplists_k11_whole_readers) (q := view (OpenLaw.row PySem.Challenge.rw_toplists_k11_whole_readers).prog [22]) (H := hk) (ob := ob) (M := 4000) (loose := loose) (d := HandSHeadRun.topDef (OpenLaw.row PySem.Challenge.rw_toplists_k11_whole_readers).prog 22) (kwd := []) ob_eq
    (by kernel_rfl) (fun s => by kernel_rfl) run (by kernel_rfl) (by kernel_rfl) (by kernel_rfl) (by rfl) (by first | assumption | decide +kernel) (by decide +kernel) ⟨rfl, rfl, rfl, rfl, rfl, by decide +kernel⟩ ?hw ?hc
  case hw => w_witness2
  case hc =>
    refine walk_w (l := PySem.Challenge.rw_toplists_k11_whole_readers) (n := 63) (k := 7) (x := "_law_script") (F := F_law_k11) rfl (by decide) (by kernel_rfl) ⟨rfl, by decide, by decide⟩ hF ?_
    intro w mg fa h Y G hmg0
    obtain ⟨K, KX, c⟩ := Y
    have hmg : mg ("law" : PySem.Str) = some (.ref fa) := by
      have e : (HandSHeadRun.topDef (OpenLaw.row PySem.Challenge.rw_toplists_k11_whole_readers).prog 22).name = ("law" : PySem.Str) := by kernel_rfl
      rw [← e]
      exact hmg0
    obtain ⟨fd, hb, hF⟩ := facts (P := (PySem.Challenge.rw_toplists_k11_whole_readers).prog) (w := w) KX G hmg c
    exact ⟨K, XRL (cvL K), cvL K, fd, KX, hb, hF⟩
end Tv
theorem PySem.Challenge.cw_toplists_k11_whole_readers_holds : PySem.Challenge.rw_toplists_k11_whole_readers.Holds := by
  exact Tv.law_walked fun ns _ => Tv.P.law_k11_true ns
