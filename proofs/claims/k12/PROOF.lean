import PyProof.Rows.All
import Wide.All
import OpenK.AllK
import Wide.FinOn
import HandS.ForMost
import HandS.Exc
import HandS.Lambda
import HandS.HeadHook2
import PySem.Str
import HandS.Wide
import HandS.TupAny
import HandS.TupMul
import HandS.Deep
import HandS.IsInst
import HandS.Style
import HandS.SortInts
import KE.LtData
import KE.SortCalls
import HandS.Text
import HandS.Iter
import KE.GoesEnum
import HandS.ExcOwn
import HandS.ExcCtx
import HandS.WordsExc
import HandS.TupSets
import HandS.SetFor
import HandS.HotCalls
import HandS.ExcIs
import HandS.HeadHook4
import HandS.EndTab
import HandS.HeadWalk
import HandS.Defaults
import HandS.Head0
import HandS.Head1
import HandS.Head2
import HandS.HeadEnd
import HandS.HeadHook1
import HandS.NestedK
import HandS.Words
import KE.KStateDown
import Lean
import PySem.Challenge.RW_meetcones_k12_whole_two_roads
set_option Elab.async false
set_option linter.all false
set_option maxRecDepth 100000
set_option maxHeartbeats 0
/-! Rf: plain data, a small language, its evaluator. -/
namespace Rf
open PySem

/-- data: tuples and lists by value; ref: a mutable cell; exc: an exception of the named class; kl: a list that is only looked at (the script) -/
inductive D where
  | non | bl (b : Bool) | int (i : Int) | str (x : Str) | tup (ds : List D) | lst (ds : List D) | ref (n : Nat) | exc (c : Str) | kl (ds : List D)
  deriving Inhabited
/-- a cell: a list that is changed; an instance of the named class -/
inductive O where
  | lst (ds : List D) | ins (c : Str) (fs : List (Str × D))
abbrev Hs := List O
abbrev Rho := List (Option D)
inductive Res (α : Type) where
  | ok (a : α) (st : Hs) | exc (c : Str) (st : Hs) | stuck
def Res.bind {α β : Type} (r : Res α) (k : α → Hs → Res β) : Res β := match r with
  | .ok a st => k a st
  | .exc c st => .exc c st
  | .stuck => .stuck
/-- a statement's end -/
inductive SR where
  | next (ρ : Rho) (st : Hs) | ret (d : D) (st : Hs) | exc (c : Str) (st : Hs) | stuck
def Res.sr {α : Type} (r : Res α) (k : α → Hs → SR) : SR := match r with
  | .ok a st => k a st
  | .exc c st => .exc c st
  | .stuck => .stuck

/-! ### the language -/
inductive Op where | add | sub | mul | fdiv | mod | pow
  deriving DecidableEq
inductive Cm where | eq | ne | lt | le | gt | ge | in_ | nin
  deriving DecidableEq
/-- built-ins by value -/
inductive Bf where | abs | all | any | int | len | max | min | sum | tuple | str | max2 | min2
  deriving DecidableEq
inductive Ty where | int | bool | tuple | str | cls (c : Str)
inductive Kst where | non | bl (b : Bool) | int (i : Int) | str (x : Str)
def Kst.d : Kst → D
  | .non => .non
  | .bl b => .bl b
  | .int i => .int i
  | .str x => .str x
mutual
inductive E where
  | k (c : Kst)
  | v (i : Nat)
  /-- a constant of the module: an int; a tuple of texts -/
  | gi (x : Str) (i : Int)
  | gt (x : Str) (ts : List Str)
  | tup (es : Es)
  | ofL (l : L)
  | alloc (l : L)
  | bin (op : Op) (a b : E)
  | neg (a : E)
  | not (a : E)
  | cmp (op : Cm) (a b : E)
  | chain (o1 o2 : Cm) (a b c : E)
  | isN (a : E)
  | notN (a : E)
  | bop (conj : Bool) (es : Es)
  | ife (c a b : E)
  | ix (a b : E)
  | sl (a : E) (lo hi : Oe)
  | rev (a : E)
  | blt (f : Bf) (es : Es)
  | isi (a : E) (t : Ty)
  | idx (a b : E)
  | call (f : Nat) (es : Es)
  | make (c : Str) (f : Nat) (es : Es)
  | meth (c : Str) (m : Str) (f : Nat) (o : E) (es : Es)
  | fld (c : Str) (o : E) (f : Str)
  /-- _law_told(lambda: e) -/
  | told (e : E)
  /-- a dict of the module, ints by ints, at e -/
  | gd (x : Str) (kvs : List (Int × Int)) (e : E)
  /-- tuple(range(e)) -/
  | rngT (e : E)
  /-- len(o), a == b by the own defs of the class; isinstance(a, c) -/
  | lenO (c : Str) (f : Nat) (o : E)
  | eqO (c : Str) (f : Nat) (a b : E)
  | isC (c : Str) (a : E)
inductive Es where
  | nil | cons (e : E) (es : Es)
inductive Oe where
  | none | some (e : E)
/-- what makes a new list -/
inductive L where
  | disp (es : Es)
  | comp (own : List Nat) (t : Tg) (it : It) (c : Oe) (e : E)
  | cat (a b : E)
  | rep (a b : E)
  | listOf (a : E)
  | sorted (a : E)
  | sortedSet (a : E)
  /-- list(range(a)) -/
  | rng (a : E)
inductive It where
  | seq (a : E) | enum (a : E) | rng1 (a : E) | rng2 (a b : E)
inductive Tg where
  | name (i : Nat) | tup (ts : Tgs) | sub (o i : E)
inductive Tgs where
  | nil | cons (t : Tg) (ts : Tgs)
end
def Tgs.len : Tgs → Nat
  | .nil => 0
  | .cons _ ts => ts.len + 1
mutual
inductive S where
  | expr (e : E)
  | ret (e : E)
  | asg (t : Tg) (e : E)
  | asgL (i : Nat) (mu : Bool) (l : L)
  | fld (c : Str) (o : E) (f : Str) (e : E)
  | ife (c : E) (a b : Ss)
  | for_ (t : Tg) (it : It) (b : Ss)
  | while_ (c : E) (b : Ss)
  | append (o e : E)
  | raise (c : Str)
inductive Ss where
  | nil | cons (s : S) (ss : Ss)
end

/-! ### values -/
/-- a cell that is a list, read as one -/
def dr (st : Hs) (d : D) : D := match d with
  | .ref n => (match st[n]? with
    | some (.lst ds) => .lst ds
    | _ => d)
  | d => d
def bigN : Nat := 100000
def lenOk {α : Type} (ds : List α) : Bool := Nat.ble ds.length bigN
mutual
/-- == -/
def eqD : D → D → Bool
  | .non, b => (match b with | .non => true | _ => false)
  | .bl x, b => (match b with | .bl y => x == y | .int j => (if x then 1 else 0) == j | _ => false)
  | .int i, b => (match b with | .int j => i == j | .bl y => i == (if y then 1 else 0) | _ => false)
  | .str x, b => (match b with | .str y => x == y | _ => false)
  | .tup xs, b => (match b with | .tup ys => eqDs xs ys | _ => false)
  | .lst xs, b => (match b with | .lst ys => eqDs xs ys | .kl ys => eqDs xs ys | _ => false)
  | .kl xs, b => (match b with | .lst ys => eqDs xs ys | .kl ys => eqDs xs ys | _ => false)
  | .ref _, _ => false
  | .exc _, _ => false
def eqDs : List D → List D → Bool
  | [], b => (match b with | [] => true | _ => false)
  | x :: xs, b => (match b with | y :: ys => eqD x y && eqDs xs ys | [] => false)
end
/-- signs that a text may have -/
def strOkB (x : Str) : Bool := x.cps.toList.all fun c => Nat.blt c 0x110000
mutual
/-- data without cells, at most so deep -/
def shD : Nat → D → Bool
  | _, .non => true
  | _, .bl _ => true
  | _, .int _ => true
  | _, .str x => strOkB x
  | 0, .tup _ => false
  | n + 1, .tup ds => shDs n ds
  | 0, .lst _ => false
  | n + 1, .lst ds => shDs n ds
  | 0, .kl _ => false
  | n + 1, .kl ds => shDs n ds
  | _, .ref _ => false
  | _, .exc _ => false
def shDs : Nat → List D → Bool
  | _, [] => true
  | n, d :: ds => shD n d && shDs n ds
end
mutual
/-- the order of ints, and of tuples of what has an order; none: there is none -/
def cmpD : D → D → Option Ordering
  | .int i, b => (match b with | .int j => some (if i < j then .lt else if i = j then .eq else .gt) | _ => none)
  | .tup xs, b => (match b with | .tup ys => cmpDs xs ys | _ => none)
  | _, _ => none
def cmpDs : List D → List D → Option Ordering
  | [], b => (match b with | [] => some .eq | _ :: _ => some .lt)
  | x :: xs, b => (match b with
    | [] => some .gt
    | y :: ys => (match cmpD x y with
      | some .eq => cmpDs xs ys
      | r => r))
end
mutual
/-- all of one kind: ints, or tuples of one kind, so deep -/
def lvl : Nat → D → Bool
  | 0, d => (match d with | .int _ => true | _ => false)
  | n + 1, d => (match d with | .tup ds => lvls n ds | _ => false)
def lvls : Nat → List D → Bool
  | _, [] => true
  | n, d :: ds => lvl n d && lvls n ds
end
def ltD (a b : D) : Bool := match cmpD a b with
  | some .lt => true
  | _ => false
/-- put in behind all that are not greater -/
def insD (x : D) : List D → List D
  | [] => [x]
  | y :: ys => if ltD x y then x :: y :: ys else y :: insD x ys
def sortD : List D → List D
  | [] => []
  | x :: xs => insF x (sortD xs)
where
  /-- ahead of all that are not less -/
  insF (x : D) : List D → List D
  | [] => [x]
  | y :: ys => if ltD y x then y :: insF x ys else x :: y :: ys
def allInt : List D → Option (List Int)
  | [] => some []
  | d :: ds => (match d with
    | .int i => (allInt ds).map (i :: ·)
    | _ => none)
def allBl : List D → Option (List Bool)
  | [] => some []
  | d :: ds => (match d with
    | .bl b => (allBl ds).map (b :: ·)
    | _ => none)
def sortable (ds : List D) : Bool := lvls 0 ds || lvls 1 ds || lvls 2 ds
/-- which lists of such data can be sorted: ints; tuples that are not empty; tuples, the first one empty -/
def sortShape : List D → Bool
  | [] => true
  | .tup [] :: _ => true
  | ds => ds.all fun d => match d with
    | .tup [] => false
    | _ => true
/-- ints or tuples of ints, each once -/
def dedup : List D → List D
  | [] => []
  | d :: ds => if ds.any (eqD d) then dedup ds else d :: dedup ds
/-- items of a list, a tuple, a text -/
def items (st : Hs) (d : D) : Option (List D) := match dr st d with
  | .lst ds => some ds
  | .tup ds => some ds
  | .str x => some (x.cps.toList.map fun c => .str ⟨#[c]⟩)
  | _ => none
def seqOf (st : Hs) (d : D) : Option (List D) := match dr st d with
  | .lst ds => some ds
  | .tup ds => some ds
  | _ => none
def mulOk (i j : Int) : Bool := Nat.blt i.natAbs (2 ^ 64) || Nat.blt j.natAbs (2 ^ 64) || Nat.blt (i.natAbs.log2 + j.natAbs.log2) 1000000
def divOk (j : Int) : Bool := decide (0 < j) && Nat.blt j.natAbs.log2 9000
def ixNat (n : Nat) (i : Int) : Option Nat := if 0 ≤ i then (if i < n then some i.toNat else none) else if -(n : Int) ≤ i then some (i + n).toNat else none
def sIxN (n d : Nat) : Option Int → Nat
  | none => d
  | some i => if i < 0 then (max (i + n) 0).toNat else (min i n).toNat
def cut {α : Type} (xs : List α) (lo hi : Option Int) : List α := (xs.drop (sIxN xs.length 0 lo)).take (sIxN xs.length xs.length hi - sIxN xs.length 0 lo)
def rept {α : Type} (n : Nat) (xs : List α) : List α := (List.replicate n xs).flatten

def catV (a b : D) : Option (List D) := match a, b with
  | .lst xs, .lst ys => if lenOk xs && lenOk ys then some (xs ++ ys) else none
  | _, _ => none
def repV (a b : D) : Option (List D) := match a, b with
  | .lst xs, .int k => if lenOk xs && decide (0 ≤ k) && decide (k ≤ 100) then some (rept k.toNat xs) else none
  | _, _ => none
def sortedV (st : Hs) (d : D) : Option (List D) := match seqOf st d with
  | some ds => if lenOk ds && sortable ds && sortShape ds then some (sortD ds) else none
  | none => none
def sortedSetV (d : D) : Option (List D) := match d with
  | .tup ds => if Nat.blt ds.length 60 && (lvls 0 ds || (lvls 1 ds && ds.all fun d => match d with
    | .tup [] => false
    | _ => true)) then some (sortD (dedup ds)) else none
  | _ => none
def ixV (st : Hs) (x y : D) : Option D := match y with
  | .int i => (match items st x with
    | some ds => if lenOk ds then (match ixNat ds.length i with
      | some j => ds[j]?
      | none => none) else none
    | none => none)
  | _ => none
def ixK (x y : D) : Option D := match x with
  | .kl ds => (match y with
    | .int i => (match ixNat ds.length i with
      | some j => ds[j]?
      | none => none)
    | _ => none)
  | _ => none
def slV (d : D) (l h : Option Int) : Option D := match d with
  | .tup ds => some (.tup (cut ds l h))
  | .lst ds => some (.lst (cut ds l h))
  | .str x => if lenOk x.cps.toList then some (.str ⟨(cut x.cps.toList l h).toArray⟩) else none
  | _ => none
def idxV (st : Hs) (x y : D) : Option D := match dr st x with
  | .lst ds => if shD 60 y && shDs 60 ds && lenOk ds then (match ds.findIdx? (fun d => eqD d y) with
    | some j => some (.int j)
    | none => none) else none
  | _ => none

def ok1 {α : Type} (st : Hs) (a : Option α) : Res α := match a with
  | some a => .ok a st
  | none => .stuck
def binV (op : Op) (a b : D) : Option D := match op with
  | .add => (match a, b with
    | .int i, .int j => some (.int (i + j))
    | .str x, .str y => if lenOk x.cps.toList && lenOk y.cps.toList then some (.str (x ++ y)) else none
    | .tup xs, .tup ys => if lenOk xs && lenOk ys then some (.tup (xs ++ ys)) else none
    | .lst xs, .lst ys => if lenOk xs && lenOk ys then some (.lst (xs ++ ys)) else none
    | _, _ => none)
  | .sub => (match a, b with
    | .int i, .int j => some (.int (i - j))
    | _, _ => none)
  | .mul => (match a, b with
    | .int i, .int j => if mulOk i j then some (.int (i * j)) else none
    | .lst xs, .int k => if lenOk xs && decide (0 ≤ k) && decide (k ≤ 100) then some (.lst (rept k.toNat xs)) else none
    | .tup xs, .int k => if Nat.ble xs.length 1000 && decide (1 ≤ k) && decide (k ≤ 1000) && !xs.isEmpty then some (.tup (rept k.toNat xs)) else none
    | _, _ => none)
  | .fdiv => (match a, b with
    | .int i, .int j => if divOk j then some (.int (i / j)) else none
    | _, _ => none)
  | .mod => (match a, b with
    | .int i, .int j => if decide (0 < j) then some (.int (i % j)) else none
    | _, _ => none)
  | .pow => (match a, b with
    | .int i, .int j => if decide (0 ≤ j) && decide (j ≤ 1000) && Nat.blt i.natAbs (2 ^ 64) then some (.int (i ^ j.toNat)) else none
    | _, _ => none)
def cmpV (op : Cm) (a b : D) : Option Bool := match op with
  | .eq => if shD 60 a && shD 60 b then some (eqD a b) else none
  | .ne => if shD 60 a && shD 60 b then some (!eqD a b) else none
  | .lt => (match a, b with | .int i, .int j => some (decide (i < j)) | _, _ => none)
  | .le => (match a, b with | .int i, .int j => some (decide (i ≤ j)) | _, _ => none)
  | .gt => (match a, b with | .int i, .int j => some (decide (j < i)) | _, _ => none)
  | .ge => (match a, b with | .int i, .int j => some (decide (j ≤ i)) | _, _ => none)
  | .in_ => inV a b
  | .nin => (inV a b).map (!·)
where
  inV (a b : D) : Option Bool := match b with
  | .lst ds => if shD 60 a && shDs 60 ds then some (ds.any fun d => eqD d a) else none
  | .tup ds => if shD 60 a && shDs 60 ds then some (ds.any fun d => eqD d a) else none
  | .str y => (match a with
    | .str x => (match x.cps.toList with
      | [c] => some (y.cps.toList.contains c)
      | _ => none)
    | _ => none)
  | _ => none
def isiV (t : Ty) (st : Hs) (d : D) : Option Bool := match d with
  | .non => (match t with | .cls _ => none | _ => some false)
  | .bl _ => (match t with | .int => some true | .bool => some true | .cls _ => none | _ => some false)
  | .int _ => (match t with | .int => some true | .cls _ => none | _ => some false)
  | .str _ => (match t with | .str => some true | .cls _ => none | _ => some false)
  | .tup _ => (match t with | .tuple => some true | .cls _ => none | _ => some false)
  | .lst _ => (match t with | .cls _ => none | _ => some false)
  | .kl _ => none
  | .ref n => (match st[n]? with
    | some (.lst _) => (match t with | .cls _ => none | _ => some false)
    | _ => none)
  | .exc _ => none
/-- the class of an instance -/
def insOf (st : Hs) (d : D) : Option Str := match d with
  | .ref n => (match st[n]? with
    | some (.ins c _) => some c
    | _ => none)
  | _ => none
def eqOk (c : Str) (st : Hs) (d : D) : Bool := match d with
  | .int _ => true
  | d => decide (insOf st d = some c)
def isCV (c : Str) (st : Hs) (d : D) : Option Bool := match d with
  | .int _ => some false
  | d => if insOf st d = some c then some true else none
def maxI : List Int → Option Int
  | [] => none
  | x :: xs => some (xs.foldl (fun m y => if m < y then y else m) x)
def minI : List Int → Option Int
  | [] => none
  | x :: xs => some (xs.foldl (fun m y => if y < m then y else m) x)
def bltV (f : Bf) (ds : List D) (st : Hs) : Option D := match f with
  | .abs => (match ds with | [.int i] => some (.int (if i < 0 then -i else i)) | _ => none)
  | .all => (match ds with | [d] => (match dr st d with | .lst xs => (allBl xs).map fun bs => .bl (bs.all id) | _ => none) | _ => none)
  | .any => (match ds with | [d] => (match dr st d with | .lst xs => (allBl xs).map fun bs => .bl (bs.any id) | _ => none) | _ => none)
  | .int => (match ds with | [.int i] => some (.int i) | [.bl b] => some (.int (if b then 1 else 0)) | _ => none)
  | .len => (match ds with
    | [d] => (match dr st d with
      | .lst xs => some (.int xs.length)
      | .tup xs => some (.int xs.length)
      | .kl xs => some (.int xs.length)
      | .str x => if lenOk x.cps.toList then some (.int x.cps.toList.length) else none
      | _ => none)
    | _ => none)
  | .max => (match ds with | [d] => (seqOf st d).bind fun xs => (allInt xs).bind fun ns => (maxI ns).map .int | _ => none)
  | .min => (match ds with | [d] => (seqOf st d).bind fun xs => (allInt xs).bind fun ns => (minI ns).map .int | _ => none)
  | .sum => (match ds with | [d] => (seqOf st d).bind fun xs => (allInt xs).map fun ns => .int ns.sum | _ => none)
  | .tuple => (match ds with | [d] => (seqOf st d).map .tup | _ => none)
  | .str => (match ds with | [.int i] => if Nat.blt i.natAbs.log2 1900 then some (.str (toString i : String)) else none | _ => none)
  | .max2 => (match ds with | [.int i, .int j] => some (.int (if j > i then j else i)) | _ => none)
  | .min2 => (match ds with | [.int i, .int j] => some (.int (if j < i then j else i)) | _ => none)

/-! ### walks -/
/-- what is walked: items told ahead, or a cell's list as it stands; en: by enumerate -/
inductive Src where
  | st (en : Bool) (ds : List D) | dyn (en : Bool) (n : Nat)
def itemAt (en : Bool) (i : Nat) (d : D) : D := if en then .tup [.int i, d] else d
def rngL (lo : Int) : Nat → List D
  | 0 => []
  | n + 1 => .int lo :: rngL (lo + 1) n
def rng2V (x y : D) (st : Hs) : Res Src := match x, y with
  | .int i, .int j => if decide (j ≤ 100000) && decide (-100000 ≤ j) && decide (i ≤ 100000) && decide (-100000 ≤ i) then .ok (.st false (rngL i (j - i).toNat)) st else .stuck
  | _, _ => .stuck
/-- a for over told items -/
def forS (en : Bool) (b : D → Rho → Hs → SR) : List D → Nat → Rho → Hs → SR
  | [], _, ρ, st => .next ρ st
  | d :: ds, i, ρ, st => (match b (itemAt en i d) ρ st with
    | .next ρ' st' => forS en b ds (i + 1) ρ' st'
    | r => r)
def forD (en : Bool) (b : D → Rho → Hs → SR) (n : Nat) : Nat → Nat → Rho → Hs → SR
  | 0, _, _, _ => .stuck
  | f + 1, i, ρ, st => (match st[n]? with
    | some (.lst ds) => (match ds[i]? with
      | none => .next ρ st
      | some d => (match b (itemAt en i d) ρ st with
        | .next ρ' st' => forD en b n f (i + 1) ρ' st'
        | r => r))
    | _ => .stuck)
/-- a comprehension's turns: none: the item is left out -/
def compS (en : Bool) (b : D → Hs → Res (Option D)) : List D → Nat → List D → Hs → Res (List D)
  | [], _, acc, st => .ok acc.reverse st
  | d :: ds, i, acc, st => (match b (itemAt en i d) st with
    | .ok (some x) st' => compS en b ds (i + 1) (x :: acc) st'
    | .ok none st' => compS en b ds (i + 1) acc st'
    | _ => .stuck)
def compD (en : Bool) (b : D → Hs → Res (Option D)) (n : Nat) : Nat → Nat → List D → Hs → Res (List D)
  | 0, _, _, _ => .stuck
  | f + 1, i, acc, st => (match st[n]? with
    | some (.lst ds) => (match ds[i]? with
      | none => .ok acc.reverse st
      | some d => (match b (itemAt en i d) st with
        | .ok (some x) st' => compD en b n f (i + 1) (x :: acc) st'
        | .ok none st' => compD en b n f (i + 1) acc st'
        | _ => .stuck))
    | _ => .stuck)
def whileN (c : Rho → Hs → Res D) (b : Rho → Hs → SR) : Nat → Rho → Hs → SR
  | 0, _, _ => .stuck
  | f + 1, ρ, st => (match c ρ st with
    | .ok (.bl true) st' => (match b ρ st' with
      | .next ρ' st'' => whileN c b f ρ' st''
      | r => r)
    | .ok (.bl false) st' => .next ρ st'
    | .exc c st' => .exc c st'
    | _ => .stuck)

/-- the exceptions that are told by name -/
def told7 : List Str := ["InvalidPeople", "InvalidRule", "InvalidPlaces", "InvalidKind", "InvalidNumber", "InvalidText", "NothingToUndo"]
def toldB (c : Str) : Bool := told7.contains c
/-! ### the evaluator: C the defs, F the turns that a while, a walk of a cell may take -/
abbrev Calls := Nat → List D → Hs → Res D
def setI (ρ : Rho) (i : Nat) (d : D) : Rho := ρ.set i (some d)
def wipeR (ρ : Rho) : List Nat → Rho
  | [] => ρ
  | v :: vs => (wipeR ρ vs).set v none
def putD (f : Str) (v : D) : List (Str × D) → List (Str × D)
  | [] => [(f, v)]
  | (g, x) :: r => if g = f then (g, v) :: r else (g, x) :: putD f v r
section
variable (C : Calls) (F : Nat)
mutual
def evE : E → Rho → Hs → Res D
  | .k c, _, st => .ok c.d st
  | .v i, ρ, st => (match ρ[i]? with
    | some (some d) => .ok d st
    | _ => .stuck)
  | .gi _ i, _, st => .ok (.int i) st
  | .gt _ ts, _, st => .ok (.tup (ts.map .str)) st
  | .tup es, ρ, st => (evEs es ρ st).bind fun ds st => .ok (.tup ds) st
  | .ofL l, ρ, st => (evL l ρ st).bind fun ds st => .ok (.lst ds) st
  | .alloc l, ρ, st => (evL l ρ st).bind fun ds st => .ok (.ref st.length) (st ++ [.lst ds])
  | .bin op a b, ρ, st => (evE a ρ st).bind fun x st => (evE b ρ st).bind fun y st => ok1 st (binV op (dr st x) (dr st y))
  | .neg a, ρ, st => (evE a ρ st).bind fun x st => (match x with
    | .int i => .ok (.int (-i)) st
    | _ => .stuck)
  | .not a, ρ, st => (evE a ρ st).bind fun x st => (match x with
    | .bl b => .ok (.bl (!b)) st
    | _ => .stuck)
  | .cmp op a b, ρ, st => (evE a ρ st).bind fun x st => (evE b ρ st).bind fun y st => ok1 st ((cmpV op (dr st x) (dr st y)).map .bl)
  | .chain o1 o2 a b c, ρ, st => (evE a ρ st).bind fun x st => (evE b ρ st).bind fun y st => (match cmpV o1 (dr st x) (dr st y) with
    | some true => (evE c ρ st).bind fun z st => ok1 st ((cmpV o2 (dr st y) (dr st z)).map .bl)
    | some false => .ok (.bl false) st
    | none => .stuck)
  | .isN a, ρ, st => (evE a ρ st).bind fun x st => .ok (.bl (match x with | .non => true | _ => false)) st
  | .notN a, ρ, st => (evE a ρ st).bind fun x st => .ok (.bl (match x with | .non => false | _ => true)) st
  | .bop conj es, ρ, st => evB conj es ρ st
  | .ife c a b, ρ, st => (evE c ρ st).bind fun x st => (match x with
    | .bl true => evE a ρ st
    | .bl false => evE b ρ st
    | _ => .stuck)
  | .ix a b, ρ, st => (evE a ρ st).bind fun x st => (evE b ρ st).bind fun y st => ok1 st (match ixK x y with
    | some d => some d
    | none => ixV st x y)
  | .sl a lo hi, ρ, st => (evE a ρ st).bind fun x st => (evO lo ρ st).bind fun l st => (evO hi ρ st).bind fun h st => ok1 st (slV (dr st x) l h)
  | .rev a, ρ, st => (evE a ρ st).bind fun x st => (match dr st x with
    | .tup ds => .ok (.tup ds.reverse) st
    | _ => .stuck)
  | .blt f es, ρ, st => (evEs es ρ st).bind fun ds st => ok1 st (bltV f ds st)
  | .isi a t, ρ, st => (evE a ρ st).bind fun x st => ok1 st ((isiV t st x).map .bl)
  | .idx a b, ρ, st => (evE a ρ st).bind fun x st => (match dr st x with
    | .lst _ => (evE b ρ st).bind fun y st => ok1 st (idxV st x y)
    | _ => .stuck)
  | .call f es, ρ, st => (evEs es ρ st).bind fun ds st => C f ds st
  | .make c f es, ρ, st => (evEs es ρ st).bind fun ds st => (C f (.ref st.length :: ds) (st ++ [.ins c []])).bind fun r st' => (match r with
    | .non => .ok (.ref st.length) st'
    | _ => .stuck)
  | .meth c m f o es, ρ, st => (evE o ρ st).bind fun x st => (match x with
    | .ref n => (match st[n]? with
      | some (.ins c' fs) => if c' = c && (fs.lookup m).isNone then (evEs es ρ st).bind fun ds st => C f (x :: ds) st else .stuck
      | _ => .stuck)
    | _ => .stuck)
  | .fld c o f, ρ, st => (evE o ρ st).bind fun x st => (match x with
    | .ref n => (match st[n]? with
      | some (.ins c' fs) => if c' = c then ok1 st (fs.lookup f) else .stuck
      | _ => .stuck)
    | _ => .stuck)
  | .told e, ρ, st => (match evE e ρ st with
    | .ok d st => .ok d st
    | .exc c st => if toldB c then .ok (.tup [.str "error", .str c]) st else .stuck
    | .stuck => .stuck)
  | .gd _ kvs e, ρ, st => (evE e ρ st).bind fun x st => (match x with
    | .int i => ok1 st ((kvs.lookup i).map .int)
    | _ => .stuck)
  | .rngT e, ρ, st => (evE e ρ st).bind fun x st => (match x with
    | .int j => if decide (j ≤ 1000) && decide (1 ≤ j) then .ok (.tup (rngL 0 j.toNat)) st else .stuck
    | _ => .stuck)
  | .lenO c f o, ρ, st => (evE o ρ st).bind fun x st => if insOf st x = some c then (C f [x] st).bind fun r st => (match r with
    | .int i => if decide (0 ≤ i) && decide (i < 1000000) then .ok (.int i) st else .stuck
    | _ => .stuck) else .stuck
  | .eqO c f a b, ρ, st => (evE a ρ st).bind fun x st => (evE b ρ st).bind fun y st => if insOf st x = some c && eqOk c st y then (C f [x, y] st).bind fun r st => (match r with
    | .bl k => .ok (.bl k) st
    | _ => .stuck) else .stuck
  | .isC c a, ρ, st => (evE a ρ st).bind fun x st => ok1 st ((isCV c st x).map .bl)
def evEs : Es → Rho → Hs → Res (List D)
  | .nil, _, st => .ok [] st
  | .cons e es, ρ, st => (evE e ρ st).bind fun d st => (evEs es ρ st).bind fun ds st => .ok (d :: ds) st
/-- and, or of bools -/
def evB (conj : Bool) : Es → Rho → Hs → Res D
  | .nil, _, _ => .stuck
  | .cons e es, ρ, st => (evE e ρ st).bind fun x st => (match x with
    | .bl b => (match es with
      | .nil => .ok (.bl b) st
      | .cons _ _ => if b = conj then evB conj es ρ st else .ok (.bl b) st)
    | _ => .stuck)
def evO : Oe → Rho → Hs → Res (Option Int)
  | .none, _, st => .ok none st
  | .some e, ρ, st => (evE e ρ st).bind fun x st => (match x with
    | .int i => .ok (some i) st
    | _ => .stuck)
def evL : L → Rho → Hs → Res (List D)
  | .disp es, ρ, st => (evEs es ρ st).bind fun ds st => if lenOk ds then .ok ds st else .stuck
  | .comp own t it c e, ρ, st => (evIt it ρ st).bind fun src st =>
    let b : D → Hs → Res (Option D) := fun d st => (evTg t d (wipeR ρ own) st).bind fun ρ' st => (evC c ρ' st).bind fun k st => if k then (evE e ρ' st).bind fun x st => .ok (some x) st else .ok none st
    (match src with
    | .st en ds => if lenOk ds then compS en b ds 0 [] st else .stuck
    | .dyn en n => compD en b n (min F bigN) 0 [] st)
  | .cat a b, ρ, st => (evE a ρ st).bind fun x st => (evE b ρ st).bind fun y st => ok1 st (catV (dr st x) (dr st y))
  | .rep a b, ρ, st => (evE a ρ st).bind fun x st => (evE b ρ st).bind fun y st => ok1 st (repV (dr st x) y)
  | .listOf a, ρ, st => (evE a ρ st).bind fun x st => ok1 st (seqOf st x)
  | .sorted a, ρ, st => (evE a ρ st).bind fun x st => ok1 st (sortedV st x)
  | .sortedSet a, ρ, st => (evE a ρ st).bind fun x st => ok1 st (sortedSetV (dr st x))
  | .rng a, ρ, st => (evE a ρ st).bind fun x st => (match x with
    | .int j => if decide (j ≤ 1000) && decide (0 ≤ j) then .ok (rngL 0 j.toNat) st else .stuck
    | _ => .stuck)
/-- a comprehension's test -/
def evC : Oe → Rho → Hs → Res Bool
  | .none, _, st => .ok true st
  | .some e, ρ, st => (evE e ρ st).bind fun x st => (match x with
    | .bl b => .ok b st
    | _ => .stuck)
def evIt : It → Rho → Hs → Res Src
  | .seq a, ρ, st => (evE a ρ st).bind fun x st => (match x with
    | .ref n => (match st[n]? with
      | some (.lst _) => .ok (.dyn false n) st
      | _ => .stuck)
    | x => (match items st x with
      | some ds => .ok (.st false ds) st
      | none => .stuck))
  | .enum a, ρ, st => (evE a ρ st).bind fun x st => (match x with
    | .ref n => (match st[n]? with
      | some (.lst _) => .ok (.dyn true n) st
      | _ => .stuck)
    | x => (match seqOf st x with
      | some ds => .ok (.st true ds) st
      | none => .stuck))
  | .rng1 a, ρ, st => (evE a ρ st).bind fun x st => (match x with
    | .int j => if decide (j ≤ 100000) && decide (-100000 ≤ j) then .ok (.st false (rngL 0 j.toNat)) st else .stuck
    | _ => .stuck)
  | .rng2 a b, ρ, st => (evE a ρ st).bind fun x st => (evE b ρ st).bind fun y st => rng2V x y st
def evTg : Tg → D → Rho → Hs → Res Rho
  | .name i, d, ρ, st => .ok (setI ρ i d) st
  | .tup ts, d, ρ, st => (match d with
    | .tup ds => if ds.length = ts.len then evTgs ts ds ρ st else .stuck
    | _ => .stuck)
  | .sub o i, d, ρ, st => (evE o ρ st).bind fun x st => (evE i ρ st).bind fun y st => (match x, y with
    | .ref n, .int k => (match st[n]? with
      | some (.lst ds) => (match ixNat ds.length k with
        | some j => .ok ρ (st.set n (.lst (ds.set j d)))
        | none => .stuck)
      | _ => .stuck)
    | _, _ => .stuck)
def evTgs : Tgs → List D → Rho → Hs → Res Rho
  | .nil, ds, ρ, st => (match ds with
    | [] => .ok ρ st
    | _ => .stuck)
  | .cons t ts, ds, ρ, st => (match ds with
    | d :: ds => (evTg t d ρ st).bind fun ρ st => evTgs ts ds ρ st
    | [] => .stuck)
end
mutual
def evS : S → Rho → Hs → SR
  | .expr e, ρ, st => (evE C F e ρ st).sr fun _ st => .next ρ st
  | .ret e, ρ, st => (evE C F e ρ st).sr fun d st => .ret d st
  | .asg t e, ρ, st => (evE C F e ρ st).sr fun d st => (evTg C F t d ρ st).sr fun ρ st => .next ρ st
  | .asgL i mu l, ρ, st => (evL C F l ρ st).sr fun ds st => if mu then .next (setI ρ i (.ref st.length)) (st ++ [.lst ds]) else .next (setI ρ i (.lst ds)) st
  | .fld c o f e, ρ, st => (evE C F e ρ st).sr fun d st => (evE C F o ρ st).sr fun x st => (match x with
    | .ref n => (match st[n]? with
      | some (.ins c' fs) => if c' = c && Nat.blt fs.length 100 then .next ρ (st.set n (.ins c' (putD f d fs))) else .stuck
      | _ => .stuck)
    | _ => .stuck)
  | .ife c a b, ρ, st => (evE C F c ρ st).sr fun x st => (match x with
    | .bl true => evSs a ρ st
    | .bl false => evSs b ρ st
    | _ => .stuck)
  | .for_ t it b, ρ, st => (evIt C F it ρ st).sr fun src st =>
    let bd : D → Rho → Hs → SR := fun d ρ st => (evTg C F t d ρ st).sr fun ρ st => evSs b ρ st
    (match src with
    | .st en ds => forS en bd ds 0 ρ st
    | .dyn en n => forD en bd n F 0 ρ st)
  | .while_ c b, ρ, st => whileN (evE C F c) (evSs b) F ρ st
  | .append o e, ρ, st => (evE C F o ρ st).sr fun x st => (match x with
    | .ref n => (match st[n]? with
      | some (.lst _) => (evE C F e ρ st).sr fun d st => (match st[n]? with
        | some (.lst ds) => if lenOk ds then .next ρ (st.set n (.lst (ds ++ [d]))) else .stuck
        | _ => .stuck)
      | _ => .stuck)
    | _ => .stuck)
  | .raise c, _, st => .exc c st
def evSs : Ss → Rho → Hs → SR
  | .nil, ρ, st => .next ρ st
  | .cons s ss, ρ, st => (match evS s ρ st with
    | .next ρ st => evSs ss ρ st
    | r => r)
end
end

/-! ### defs -/
mutual
/-- no cell from n on -/
def below (n : Nat) : D → Bool
  | .tup ds => belows n ds
  | .lst ds => belows n ds
  | .kl ds => belows n ds
  | .ref m => Nat.blt m n
  | _ => true
def belows (n : Nat) : List D → Bool
  | [] => true
  | d :: ds => below n d && belows n ds
end
def belowO (n : Nat) : O → Bool
  | .lst ds => belows n ds
  | .ins _ fs => fs.all fun p => below n p.2
def optMap (g : D → Option D) : List D → Option (List D)
  | [] => some []
  | d :: ds => (match g d with
    | some x => (optMap g ds).map (x :: ·)
    | none => none)
/-- the cells from n on that are lists, by value (k: how deep) -/
def frz (st : Hs) (n : Nat) : Nat → D → Option D
  | 0, d => if below n d then some d else none
  | k + 1, d => (match d with
    | .tup ds => (optMap (frz st n k) ds).map .tup
    | .lst ds => (optMap (frz st n k) ds).map .lst
    | .kl ds => if belows n ds then some (.kl ds) else none
    | .ref m => if Nat.blt m n then some (.ref m) else (match st[m]? with
      | some (.lst ds) => (optMap (frz st n k) ds).map .lst
      | _ => none)
    | d => some d)
/-- the end of a call that began with n cells -/
def fin (clean : Bool) (n : Nat) (d : D) (st : Hs) : Res D :=
  if Nat.ble st.length n then .ok d st else
  if clean then (match frz st n 12 d with
    | some d' => if (st.take n).all (belowO n) then .ok d' (st.take n) else .stuck
    | none => .stuck)
  else .ok d st
structure Fn where
  /-- names (slots) | parameters -/
  size : Nat
  pars : Nat
  clean : Bool
  body : Ss
def startR (f : Fn) (ds : List D) : Rho := ds.map some ++ List.replicate (f.size - ds.length) none
def runFn (C : Calls) (F : Nat) (f : Fn) (ds : List D) (st : Hs) : Res D :=
  if ds.length = f.pars then (match evSs C F f.body (startR f ds) st with
    | .next _ st' => fin f.clean st.length .non st'
    | .ret d st' => fin f.clean st.length d st'
    | .exc c st' => if Nat.ble st'.length st.length then .exc c st' else if (st'.take st.length).all (belowO st.length) then .exc c (st'.take st.length) else .stuck
    | .stuck => .stuck)
  else .stuck
/-- the defs of a text, nested at most n deep -/
def callN (fs : List (Option Fn)) (F : Nat) : Nat → Calls
  | 0 => fun _ _ _ => .stuck
  | n + 1 => fun i ds st => (match fs[i]? with
    | some (some f) => runFn (callN fs F n) F f ds st
    | _ => .stuck)
end Rf

/-! Rf: how data and cells stand in the layer's heap. -/
namespace Rf
open PySem L2 LamX

/-- the cells' addresses; r: lists that are being made, no value may be one of them -/
structure As where
  l : List Addr
  r : List Addr
def As.add (as : As) (p : Addr) : As := ⟨as.l ++ [p], as.r⟩
/-- a list that nobody changes: known to the object, or the module's -/
def SqF (K : PySem.W.Frag) (as : As) (H : Hp) (a : Addr) (xs : List V) : Prop :=
  (∃ o, H a = some (.frz o (.lst xs))) ∨
    (∃ (o : Obj) (its : Array Value) (n : Nat), K.lookup a = some o ∧ o.cls = .type "list" ∧ o.dict = none ∧ o.data = .seq its n ∧ its.size ≤ sizeLine ∧ Vals xs its.toList) ∨
    (H a = some (.lst xs) ∧ a ∉ as.l ∧ a ∉ as.r)
theorem SqF.sq {K : PySem.W.Frag} {as : As} {H : Hp} {a : Addr} {xs : List V} (h : SqF K as H a xs) : SqL K H a xs := by
  rcases h with ⟨o, h⟩ | h | h
  · exact .inl (.inr ⟨o, h⟩)
  · exact .inr h
  · exact .inl (.inl h.1)
section
variable (K : PySem.W.Frag)
mutual
inductive Rep (as : As) (H : Hp) : D → V → Prop
  | non : Rep as H .non .non
  | bl (b : Bool) : Rep as H (.bl b) (.bl b)
  | int (i : Int) : Rep as H (.int i) (.int i)
  | str (x : Str) : Rep as H (.str x) (.str x)
  | tup {a : Addr} {vs : List V} {ds : List D} : SqT K H a vs → Reps as H ds vs → Rep as H (.tup ds) (.ref a)
  | lst {a : Addr} {vs : List V} {ds : List D} : Rd H a (.lst vs) → a ∉ as.l → a ∉ as.r → Reps as H ds vs → Rep as H (.lst ds) (.ref a)
  | ref {n : Nat} {a : Addr} : as.l[n]? = some a → Rep as H (.ref n) (.ref a)
  | kl {a : Addr} {vs : List V} {ds : List D} : SqF K as H a vs → Reps as H ds vs → Rep as H (.kl ds) (.ref a)
inductive Reps (as : As) (H : Hp) : List D → List V → Prop
  | nil : Reps as H [] []
  | cons {d : D} {v : V} {ds : List D} {vs : List V} : Rep as H d v → Reps as H ds vs → Reps as H (d :: ds) (v :: vs)
end
inductive FReps (as : As) (H : Hp) : List (Str × D) → List (Str × V) → Prop
  | nil : FReps as H [] []
  | cons {f : Str} {d : D} {v : V} {ds : List (Str × D)} {vs : List (Str × V)} : Rep K as H d v → FReps as H ds vs → FReps as H ((f, d) :: ds) ((f, v) :: vs)
end

def NoTbl (o : HO) : Prop := ∀ ps, o ≠ .tbl ps
def IsMu : HO → Prop
  | .lst _ => True
  | .ins _ _ _ => True
  | _ => False
def AsOk (as : As) (H : Hp) : Prop := ∀ a ∈ as.l, ∃ o, H a = some o ∧ IsMu o
structure Ext (as : As) (H : Hp) (as' : As) (H' : Hp) : Prop where
  pre : ∃ more, as'.l = as.l ++ more
  res1 : ∀ a ∈ as.r, a ∈ as'.r
  res2 : ∀ a ∈ as'.r, a ∉ as.r → a ∉ as.l → H a = none
  new : ∀ a ∈ as'.l, a ∉ as.l → H a = none
  keep : ∀ b o, H b = some o → b ∉ as.l → NoTbl o → H' b = some o
  tbl : ∀ b ps, H b = some (.tbl ps) → ∃ ps', H' b = some (.tbl ps')
theorem Ext.refl (as : As) (H : Hp) : Ext as H as H := ⟨⟨[], by simp⟩, fun _ h => h, fun a h n _ => absurd h n, fun a h h' => absurd h h', fun _ _ h _ _ => h, fun _ ps h => ⟨ps, h⟩⟩
theorem Ext.sub {as as' : As} {H H' : Hp} (e : Ext as H as' H') {a : Addr} (h : a ∈ as.l) : a ∈ as'.l := by
  obtain ⟨m, q⟩ := e.pre
  rw [q]
  exact List.mem_append_left _ h
theorem Ext.notin {as as' : As} {H H' : Hp} (e : Ext as H as' H') {b : Addr} {o : HO} (h : H b = some o) (n : b ∉ as.l) : b ∉ as'.l := fun hb => by
  rw [e.new b hb n] at h
  cases h
theorem Ext.free {as as' : As} {H H' : Hp} (e : Ext as H as' H') (k : AsOk as' H') {b : Addr} (h : H' b = none) : H b = none := by
  cases q : H b with
  | none => rfl
  | some o =>
    by_cases hb : b ∈ as.l
    · obtain ⟨o', ho, _⟩ := k b (e.sub hb)
      rw [ho] at h
      cases h
    · by_cases ht : NoTbl o
      · rw [e.keep b o q hb ht] at h
        cases h
      · have : ∃ ps, o = .tbl ps := by
          cases o with
          | tbl ps => exact ⟨ps, rfl⟩
          | _ => exact absurd (fun ps z => by cases z) ht
        obtain ⟨ps, rfl⟩ := this
        obtain ⟨ps', z⟩ := e.tbl b ps q
        rw [z] at h
        cases h
theorem tbl_or (o : HO) : NoTbl o ∨ ∃ ps, o = .tbl ps := by
  cases o with
  | tbl ps => exact .inr ⟨ps, rfl⟩
  | _ => exact .inl fun ps z => by cases z
theorem Ext.trans {as as1 as2 : As} {H H1 H2 : Hp} (a : Ext as H as1 H1) (b : Ext as1 H1 as2 H2) : Ext as H as2 H2 where
  pre := by
    obtain ⟨m1, q1⟩ := a.pre
    obtain ⟨m2, q2⟩ := b.pre
    exact ⟨m1 ++ m2, by rw [q2, q1]; simp⟩
  res1 := fun x hx => b.res1 x (a.res1 x hx)
  res2 := fun x hx nr nl => by
    by_cases h1 : x ∈ as1.r
    · exact a.res2 x h1 nr nl
    · by_cases h2 : x ∈ as1.l
      · exact a.new x h2 nl
      · have h3 := b.res2 x hx h1 h2
        cases q : H x with
        | none => rfl
        | some o =>
          rcases tbl_or o with ht | ⟨ps, rfl⟩
          · rw [a.keep x o q nl ht] at h3
            cases h3
          · obtain ⟨ps', z⟩ := a.tbl x ps q
            rw [z] at h3
            cases h3
  new := fun x hx nx => by
    by_cases h1 : x ∈ as1.l
    · exact a.new x h1 nx
    · have h2 := b.new x hx h1
      cases q : H x with
      | none => rfl
      | some o =>
        rcases tbl_or o with ht | ⟨ps, rfl⟩
        · rw [a.keep x o q nx ht] at h2
          cases h2
        · obtain ⟨ps', z⟩ := a.tbl x ps q
          rw [z] at h2
          cases h2
  keep := fun x o h nx ht => b.keep x o (a.keep x o h nx ht) (a.notin h nx) ht
  tbl := fun x ps h => by
    obtain ⟨p1, h1⟩ := a.tbl x ps h
    exact b.tbl x p1 h1
/-- a new object -/
theorem Ext.fresh {as : As} {H : Hp} {p : Addr} {o : HO} (h : H p = none) : Ext as H as (upd H p o) where
  pre := ⟨[], by simp⟩
  res1 := fun _ h => h
  res2 := fun a h n _ => absurd h n
  new := fun a h h' => absurd h h'
  keep := fun b u hb _ _ => by rw [upd_ne (ne_of_none hb h)]; exact hb
  tbl := fun b ps hb => ⟨ps, by rw [upd_ne (ne_of_none hb h)]; exact hb⟩
theorem Ext.freshA {as : As} {H : Hp} {p : Addr} {o : HO} (h : H p = none) : Ext as H (as.add p) (upd H p o) where
  pre := ⟨[p], rfl⟩
  res1 := fun _ h => h
  res2 := fun a h n _ => absurd h n
  new := fun a ha na => by
    rcases List.mem_append.mp ha with z | z
    · exact absurd z na
    · have e : a = p := by simpa using z
      rw [e]
      exact h
  keep := fun b u hb _ _ => by rw [upd_ne (ne_of_none hb h)]; exact hb
  tbl := fun b ps hb => ⟨ps, by rw [upd_ne (ne_of_none hb h)]; exact hb⟩
/-- a cell is changed -/
theorem Ext.write {as : As} {H : Hp} {p : Addr} {o : HO} (k : AsOk as H) (h : p ∈ as.l) : Ext as H as (upd H p o) where
  pre := ⟨[], by simp⟩
  res1 := fun _ h => h
  res2 := fun a h n _ => absurd h n
  new := fun a h h' => absurd h h'
  keep := fun b u hb nb _ => by
    rw [upd_ne (show b ≠ p from fun e => nb (by rw [e]; exact h))]
    exact hb
  tbl := fun b ps hb => ⟨ps, by
    rw [upd_ne (show b ≠ p from fun e => ?_)]
    · exact hb
    · obtain ⟨o', ho, m⟩ := k p h
      rw [← e, hb] at ho
      cases ho
      exact m⟩

section
variable {K : PySem.W.Frag} {as as' : As} {H H' : Hp}
theorem rd_ext {a : Addr} {o : HO} (e : Ext as H as' H') (n : a ∉ as.l) (hl : ∀ ps, o ≠ .tbl ps) (h : Rd H a o) : Rd H' a o := by
  rcases h with h | ⟨ob, h⟩
  · exact .inl (e.keep a _ h n hl)
  · exact .inr ⟨ob, e.keep a _ h n fun ps z => by cases z⟩
theorem notin_tup {a : Addr} {xs : List V} (k : AsOk as H) (h : Rd H a (.tup xs)) : a ∉ as.l := fun ha => by
  obtain ⟨o, ho, m⟩ := k a ha
  rcases h with h | ⟨ob, h⟩
  · rw [h] at ho
    cases ho
    exact m
  · rw [h] at ho
    cases ho
    exact m
theorem sqT_ext {a : Addr} {xs : List V} (e : Ext as H as' H') (k : AsOk as H) (h : SqT K H a xs) : SqT K H' a xs := by
  rcases h with h | h
  · exact .inl (rd_ext e (notin_tup k h) (fun ps z => by cases z) h)
  · exact .inr h
theorem sqF_ext {a : Addr} {xs : List V} (e : Ext as H as' H') (k : AsOk as H) (h : SqF K as H a xs) : SqF K as' H' a xs := by
  rcases h with ⟨o, h⟩ | h | ⟨h, n, nr⟩
  · refine .inl ⟨o, e.keep a _ h (fun ha => ?_) fun ps z => by cases z⟩
    obtain ⟨u, hu, m⟩ := k a ha
    rw [h] at hu
    cases hu
    exact m
  · exact .inr (.inl h)
  · exact .inr (.inr ⟨e.keep a _ h n (fun ps z => by cases z), e.notin h n, fun hr => by
      rw [e.res2 _ hr nr n] at h
      cases h⟩)
mutual
theorem Rep.ext (e : Ext as H as' H') (k : AsOk as H) : ∀ {d : D} {v : V}, Rep K as H d v → Rep K as' H' d v
  | _, _, .non => .non
  | _, _, .bl b => .bl b
  | _, _, .int i => .int i
  | _, _, .str x => .str x
  | _, _, .tup h r => .tup (sqT_ext e k h) (Reps.ext e k r)
  | _, _, .lst h n nr r => .lst (rd_ext e n (fun ps z => by cases z) h) (by
      rcases h with h | ⟨ob, h⟩
      · exact e.notin h n
      · exact e.notin h n) (fun hr => by
      have z := e.res2 _ hr nr n
      rcases h with h | ⟨ob, h⟩
      · rw [h] at z; cases z
      · rw [h] at z; cases z) (Reps.ext e k r)
  | _, _, .ref h => .ref (by
      obtain ⟨m, q⟩ := e.pre
      rw [q, List.getElem?_append_left (List.getElem?_eq_some_iff.mp h).1]
      exact h)
  | _, _, .kl h r => .kl (sqF_ext e k h) (Reps.ext e k r)
theorem Reps.ext (e : Ext as H as' H') (k : AsOk as H) : ∀ {ds : List D} {vs : List V}, Reps K as H ds vs → Reps K as' H' ds vs
  | _, _, .nil => .nil
  | _, _, .cons a b => .cons (Rep.ext e k a) (Reps.ext e k b)
end
theorem FReps.ext (e : Ext as H as' H') (k : AsOk as H) : ∀ {ds : List (Str × D)} {vs : List (Str × V)}, FReps K as H ds vs → FReps K as' H' ds vs
  | _, _, .nil => .nil
  | _, _, .cons a b => .cons (Rep.ext e k a) (FReps.ext e k b)
theorem Reps.length : ∀ {ds : List D} {vs : List V}, Reps K as H ds vs → ds.length = vs.length
  | _, _, .nil => rfl
  | _, _, .cons _ b => congrArg (· + 1) (Reps.length b)
theorem Reps.get : ∀ {ds : List D} {vs : List V}, Reps K as H ds vs → ∀ {i : Nat} {d : D}, ds[i]? = some d → ∃ v, vs[i]? = some v ∧ Rep K as H d v
  | _, _, .nil, _, _, h => by simp at h
  | _, _, .cons a b, 0, _, h => by
    simp at h
    subst h
    exact ⟨_, rfl, a⟩
  | _, _, .cons a b, i + 1, _, h => by
    obtain ⟨v, h1, h2⟩ := Reps.get b (i := i) (by simpa using h)
    exact ⟨v, by simpa using h1, h2⟩
theorem Reps.append : ∀ {ds es : List D} {vs us : List V}, Reps K as H ds vs → Reps K as H es us → Reps K as H (ds ++ es) (vs ++ us)
  | _, _, _, _, .nil, b => b
  | _, _, _, _, .cons x a, b => .cons x (Reps.append a b)
theorem Reps.set {d : D} {v : V} (r : Rep K as H d v) : ∀ {ds : List D} {vs : List V} (i : Nat), Reps K as H ds vs → Reps K as H (ds.set i d) (vs.set i v)
  | _, _, _, .nil => .nil
  | _, _, 0, .cons _ b => .cons r b
  | _, _, i + 1, .cons a b => .cons a (Reps.set r i b)
theorem Reps.take : ∀ {ds : List D} {vs : List V} (n : Nat), Reps K as H ds vs → Reps K as H (ds.take n) (vs.take n)
  | _, _, 0, _ => .nil
  | _, _, _ + 1, .nil => .nil
  | _, _, n + 1, .cons a b => .cons a (Reps.take n b)
theorem Reps.drop : ∀ {ds : List D} {vs : List V} (n : Nat), Reps K as H ds vs → Reps K as H (ds.drop n) (vs.drop n)
  | _, _, 0, r => r
  | _, _, _ + 1, .nil => .nil
  | _, _, n + 1, .cons _ b => Reps.drop n b
theorem Reps.reverse : ∀ {ds : List D} {vs : List V}, Reps K as H ds vs → Reps K as H ds.reverse vs.reverse
  | _, _, .nil => .nil
  | _, _, .cons a b => by
    rw [List.reverse_cons, List.reverse_cons]
    exact (Reps.reverse b).append (.cons a .nil)
theorem Reps.rept {ds : List D} {vs : List V} (r : Reps K as H ds vs) : ∀ n : Nat, Reps K as H (Rf.rept n ds) ((List.replicate n vs).flatten)
  | 0 => .nil
  | n + 1 => by
    have := Reps.rept r n
    unfold Rf.rept at this ⊢
    rw [List.replicate_succ, List.replicate_succ, List.flatten_cons, List.flatten_cons]
    exact r.append this
theorem Reps.ints : ∀ {ns : List Int} {ds : List D} {vs : List V}, allInt ds = some ns → Reps K as H ds vs → vs = ns.map V.int
  | ns, _, _, h, .nil => by
    simp [allInt] at h
    subst h
    rfl
  | ns, d :: ds, _, h, .cons a b => by
    cases d with
    | int i =>
      simp only [allInt, Option.map_eq_some_iff] at h
      obtain ⟨ms, h1, rfl⟩ := h
      cases a
      rw [Reps.ints h1 b]
      rfl
    | _ => simp [allInt] at h
theorem Reps.bls : ∀ {bs : List Bool} {ds : List D} {vs : List V}, allBl ds = some bs → Reps K as H ds vs → vs = bs.map V.bl
  | bs, _, _, h, .nil => by
    simp [allBl] at h
    subst h
    rfl
  | bs, d :: ds, _, h, .cons a b => by
    cases d with
    | bl i =>
      simp only [allBl, Option.map_eq_some_iff] at h
      obtain ⟨ms, h1, rfl⟩ := h
      cases a
      rw [Reps.bls h1 b]
      rfl
    | _ => simp [allBl] at h
end

/-! ### cells -/
section
variable (K : PySem.W.Frag) (T : List (Addr × Str))
def ORep (as : As) (H : Hp) : O → Addr → Prop
  | .lst ds, a => ∃ vs, H a = some (.lst vs) ∧ Reps K as H ds vs
  | .ins c fs, a => ∃ dx vs, H a = some (.ins (He.ga K c) dx vs) ∧ FReps K as H fs vs
structure Sim (st : Hs) (as : As) (H : Hp) : Prop where
  len : as.l.length = st.length
  nd : as.l.Nodup
  rn : as.r.Nodup
  rs : ∀ a ∈ as.r, a ∉ as.l ∧ ∃ vs, H a = some (.lst vs)
  obj : ∀ (n : Nat) (o : O) (a : Addr), st[n]? = some o → as.l[n]? = some a → ORep K as H o a
  tab : Tabs T H
def REnv (as : As) (H : Hp) (ρ : Rho) (σ : L2.St) : Prop := ρ.length = σ.length ∧ ∀ (i : Nat) (d : D), ρ[i]? = some (some d) → ∃ v, σ[i]? = some (some v) ∧ Rep K as H d v
end
section
variable {K : PySem.W.Frag} {T : List (Addr × Str)} {st st' : Hs} {as as' : As} {H H' : Hp}
theorem Sim.ok (s : Sim K T st as H) : AsOk as H := fun a ha => by
  obtain ⟨n, hn, e⟩ := List.mem_iff_getElem.mp ha
  have e1 : as.l[n]? = some a := by rw [List.getElem?_eq_getElem hn, e]
  have hn2 : n < st.length := by rw [← s.len]; exact hn
  have e2 : st[n]? = some st[n] := List.getElem?_eq_getElem hn2
  have := s.obj n _ a e2 e1
  cases q : st[n] with
  | lst ds =>
    rw [q] at this
    obtain ⟨vs, h, _⟩ := this
    exact ⟨_, h, trivial⟩
  | ins c fs =>
    rw [q] at this
    obtain ⟨dx, vs, h, _⟩ := this
    exact ⟨_, h, trivial⟩
theorem Sim.at (s : Sim K T st as H) {n : Nat} {o : O} (h : st[n]? = some o) : ∃ a, as.l[n]? = some a ∧ a ∈ as.l ∧ ORep K as H o a := by
  have hn : n < as.l.length := by rw [s.len]; exact (List.getElem?_eq_some_iff.mp h).1
  exact ⟨as.l[n], List.getElem?_eq_getElem hn, List.getElem_mem hn, s.obj n o _ h (List.getElem?_eq_getElem hn)⟩
theorem ORep.ext {o : O} {a : Addr} (e : Ext as H as' H') (k : AsOk as H) (h : ORep K as H o a) (ha : H' a = H a) : ORep K as' H' o a := by
  cases o with
  | lst ds =>
    obtain ⟨vs, h1, h2⟩ := h
    exact ⟨vs, ha.trans h1, h2.ext e k⟩
  | ins c fs =>
    obtain ⟨dx, vs, h1, h2⟩ := h
    exact ⟨dx, vs, ha.trans h1, h2.ext e k⟩
/-- a new object that is no cell -/
theorem Sim.fresh (s : Sim K T st as H) {p : Addr} {o : HO} (h : H p = none) : Sim K T st as (upd H p o) where
  len := s.len
  nd := s.nd
  rn := s.rn
  rs := fun a ha => by
    obtain ⟨h1, vs, h2⟩ := s.rs a ha
    exact ⟨h1, vs, by rw [upd_ne (ne_of_none h2 h)]; exact h2⟩
  obj := fun n x a h1 h2 => (s.obj n x a h1 h2).ext (Ext.fresh h) s.ok (by
    obtain ⟨u, hu, _⟩ := s.ok a (List.mem_of_getElem? h2)
    rw [upd_ne (ne_of_none hu h)])
  tab := s.tab.ext fun b u hb => by rw [upd_ne (ne_of_none hb h)]; exact hb
/-- a new cell -/
theorem Sim.alloc (s : Sim K T st as H) {p : Addr} {o : HO} {c : O} (h : H p = none) (hc : ORep K (as.add p) (upd H p o) c p) : Sim K T (st ++ [c]) (as.add p) (upd H p o) where
  len := by simp [As.add, s.len]
  rn := s.rn
  rs := fun a ha => by
    obtain ⟨h1, vs, h2⟩ := s.rs a ha
    have ne := ne_of_none h2 h
    refine ⟨fun hm => ?_, vs, by rw [upd_ne ne]; exact h2⟩
    rcases List.mem_append.mp hm with z | z
    · exact h1 z
    · exact ne (by simpa using z)
  nd := by
    refine List.nodup_append.mpr ⟨s.nd, List.nodup_cons.mpr ⟨by simp, List.nodup_nil⟩, fun a ha b hb e => ?_⟩
    have eb : b = p := by simpa using hb
    obtain ⟨u, hu, _⟩ := s.ok a ha
    rw [e, eb, h] at hu
    cases hu
  obj := fun n x a h1 h2 => by
    unfold As.add at h2
    dsimp only at h2
    by_cases hn : n < as.l.length
    · rw [List.getElem?_append_left hn] at h2
      rw [List.getElem?_append_left (by rw [← s.len]; exact hn)] at h1
      refine (s.obj n x a h1 h2).ext (Ext.freshA h) s.ok ?_
      obtain ⟨u, hu, _⟩ := s.ok a (List.mem_of_getElem? h2)
      rw [upd_ne (ne_of_none hu h)]
    · rw [List.getElem?_append_right (by omega)] at h2
      rw [List.getElem?_append_right (by rw [← s.len]; omega)] at h1
      have hl := s.len
      have e0 : n - as.l.length = 0 := by
        have := (List.getElem?_eq_some_iff.mp h2).1
        simp at this
        omega
      rw [e0] at h2
      rw [show n - st.length = 0 by omega] at h1
      simp at h1 h2
      subst h1 h2
      exact hc
  tab := s.tab.ext fun b u hb => by rw [upd_ne (ne_of_none hb h)]; exact hb
/-- a cell is changed -/
theorem Sim.write (s : Sim K T st as H) {n : Nat} {p : Addr} {o : HO} {c : O} (h : as.l[n]? = some p) (hc : ORep K as (upd H p o) c p) : Sim K T (st.set n c) as (upd H p o) where
  len := by simp [s.len]
  nd := s.nd
  rn := s.rn
  rs := fun a ha => by
    obtain ⟨h1, vs, h2⟩ := s.rs a ha
    refine ⟨h1, vs, ?_⟩
    rw [upd_ne]
    · exact h2
    · intro e
      subst e
      exact h1 (List.mem_of_getElem? h)
  obj := fun m x a h1 h2 => by
    by_cases hm : m = n
    · subst hm
      rw [h] at h2
      cases h2
      rw [List.getElem?_set_self (by rw [← s.len]; exact (List.getElem?_eq_some_iff.mp h).1)] at h1
      cases h1
      exact hc
    · rw [List.getElem?_set_ne (fun e => hm e.symm)] at h1
      refine (s.obj m x a h1 h2).ext (Ext.write s.ok (List.mem_of_getElem? h)) s.ok ?_
      rw [upd_ne]
      intro e
      subst e
      exact hm (nodup_ix2 s.nd h2 h)
  tab := fun q hq => by
    have hp := List.mem_of_getElem? h
    obtain ⟨u, hu, m⟩ := s.ok p hp
    obtain ⟨ps, t1, t2, t3⟩ := s.tab q hq
    have n1 : q.1 ≠ p := fun e => by
      rw [e, hu] at t1
      cases t1
      exact m
    refine ⟨ps, by rw [upd_ne n1]; exact t1, t2, fun pos cv hcv => ?_⟩
    obtain ⟨c', e1, e2⟩ := t3 pos cv hcv
    refine ⟨c', e1, ?_⟩
    rw [upd_ne]
    · exact e2
    · intro e
      rw [e, hu] at e2
      cases e2
      exact m
where
  nodup_ix2 {l : List Addr} (nd : l.Nodup) {i j : Nat} {x : Addr} (a : l[i]? = some x) (b : l[j]? = some x) : i = j := by
    obtain ⟨h1, e1⟩ := List.getElem?_eq_some_iff.mp a
    obtain ⟨h2, e2⟩ := List.getElem?_eq_some_iff.mp b
    exact (List.getElem_inj nd).mp (e1.trans e2.symm)
theorem REnv.ext {ρ : Rho} {σ : L2.St} (e : Ext as H as' H') (k : AsOk as H) (r : REnv K as H ρ σ) : REnv K as' H' ρ σ := ⟨r.1, fun i d h => by
  obtain ⟨v, h1, h2⟩ := r.2 i d h
  exact ⟨v, h1, h2.ext e k⟩⟩
theorem REnv.set {ρ : Rho} {σ : L2.St} {d : D} {v : V} (r : REnv K as H ρ σ) (i : Nat) (h : Rep K as H d v) : REnv K as H (setI ρ i d) (σ.set i (some v)) := ⟨by simp [setI, r.1], fun j e hj => by
  unfold setI at hj
  by_cases hi : j = i
  · subst hi
    have hl : j < ρ.length := by
      have := (List.getElem?_eq_some_iff.mp hj).1
      simpa using this
    rw [List.getElem?_set_self hl] at hj
    cases hj
    exact ⟨v, by rw [List.getElem?_set_self (by rw [← r.1]; exact hl)], h⟩
  · rw [List.getElem?_set_ne (fun e => hi e.symm)] at hj
    obtain ⟨u, h1, h2⟩ := r.2 j e hj
    exact ⟨u, by rw [List.getElem?_set_ne (fun e => hi e.symm)]; exact h1, h2⟩⟩
theorem wipe_at {α : Type} : ∀ (vs : List Nat) (ρ : List (Option α)) (W : List (Option α) → List Nat → List (Option α)) (h0 : ∀ ρ, W ρ [] = ρ) (h1 : ∀ ρ v vs, W ρ (v :: vs) = (W ρ vs).set v none) (i : Nat) (x : α),
    (W ρ vs)[i]? = some (some x) ↔ (ρ[i]? = some (some x) ∧ i ∉ vs) := by
  intro vs ρ W h0 h1 i x
  induction vs with
  | nil => rw [h0]; simp
  | cons v vs ih =>
    rw [h1]
    by_cases hi : v = i
    · subst hi
      constructor
      · intro h
        by_cases hv : v < (W ρ vs).length
        · rw [List.getElem?_set_self hv] at h; cases h
        · rw [List.getElem?_eq_none (by simpa using hv)] at h; cases h
      · intro h
        exact absurd (List.mem_cons_self) h.2
    · rw [List.getElem?_set_ne hi, ih]
      simp only [List.mem_cons, not_or]
      constructor
      · intro h
        exact ⟨h.1, fun e => hi e.symm, h.2⟩
      · intro h
        exact ⟨h.1, h.2.2⟩
theorem REnv.wipe {ρ : Rho} {σ : L2.St} (r : REnv K as H ρ σ) (own : List Nat) : REnv K as H (wipeR ρ own) (wipe σ own) := by
  refine ⟨?_, fun i d h => ?_⟩
  · have : ∀ own : List Nat, (wipeR ρ own).length = ρ.length := fun own => by
      induction own with
      | nil => rfl
      | cons v vs ih => unfold wipeR; rw [List.length_set, ih]
    rw [this, wipe_length, r.1]
  · have := (wipe_at own ρ wipeR (fun _ => rfl) (fun _ _ _ => rfl) i d).mp h
    obtain ⟨v, h1, h2⟩ := r.2 i d this.1
    exact ⟨v, (wipe_at own σ L2.wipe (fun _ => rfl) (fun _ _ _ => rfl) i v).mpr ⟨h1, this.2⟩, h2⟩
end

/-! ### what is wanted behind an evaluation -/
section
variable (K : PySem.W.Frag) (T : List (Addr × Str)) (W : Str → Hp → Prop)
def Post {α β : Type} (R : As → Hp → α → β → Prop) (as : As) (H : Hp) (Q : β → Hp → Prop) : Res α → Prop
  | .ok a st' => ∀ as' H' b, Ext as H as' H' → Sim K T st' as' H' → R as' H' a b → Q b H'
  | .exc c st' => ∀ as' H', Ext as H as' H' → Sim K T st' as' H' → W c H'
  | .stuck => False
def tOf {α β : Type} (R : As → Hp → α → β → Prop) (ev : Rho → Hs → Res α) : L2.St → Hp → (β → Hp → Prop) → Prop := fun σ H Q =>
  ∃ ρ st as, Sim K T st as H ∧ REnv K as H ρ σ ∧ Post K T W R as H Q (ev ρ st)
/-- a list just made at p -/
def PostL (as : As) (H : Hp) (Q : VK) : Res (List D) → Prop
  | .ok ds st' => ∀ as' H' p vs, Ext as H as' H' → Sim K T st' as' H' → Reps K as' H' ds vs → H' p = none → Q (.ref p) (upd H' p (.lst vs))
  | .exc c st' => ∀ as' H', Ext as H as' H' → Sim K T st' as' H' → W c H'
  | .stuck => False
def tOfL (ev : Rho → Hs → Res (List D)) : TE := fun σ H Q => ∃ ρ st as, Sim K T st as H ∧ REnv K as H ρ σ ∧ PostL K T W as H Q (ev ρ st)
end
section
variable {K : PySem.W.Frag} {T : List (Addr × Str)} {W : Str → Hp → Prop} {α β γ δ : Type} {R : As → Hp → α → β → Prop} {R2 : As → Hp → γ → δ → Prop} {as as1 : As} {H H1 : Hp}
theorem Post.shift {Q : β → Hp → Prop} {r : Res α} (e : Ext as H as1 H1) (h : Post K T W R as H Q r) : Post K T W R as1 H1 Q r := by
  cases r with
  | ok a st => exact fun as' H' b e' s r => h as' H' b (e.trans e') s r
  | exc c st => exact fun as' H' e' s => h as' H' (e.trans e') s
  | stuck => exact h
theorem PostL.shift {Q : VK} {r : Res (List D)} (e : Ext as H as1 H1) (h : PostL K T W as H Q r) : PostL K T W as1 H1 Q r := by
  cases r with
  | ok a st => exact fun as' H' p b e' s r n => h as' H' p b (e.trans e') s r n
  | exc c st => exact fun as' H' e' s => h as' H' (e.trans e') s
  | stuck => exact h
theorem Post.mono {Q Q' : β → Hp → Prop} {r : Res α} (h : Post K T W R as H Q r) (k : ∀ b H, Q b H → Q' b H) : Post K T W R as H Q' r := by
  cases r with
  | ok a st => exact fun as' H' b e s r => k _ _ (h as' H' b e s r)
  | exc c st => exact h
  | stuck => exact h
theorem Post.bind {Q : δ → Hp → Prop} {Q1 : β → Hp → Prop} {r : Res α} {k : α → Hs → Res γ} (h : Post K T W R2 as H Q (r.bind k))
    (hk : ∀ a st1 as1 H1 b, Ext as H as1 H1 → Sim K T st1 as1 H1 → R as1 H1 a b → Post K T W R2 as1 H1 Q (k a st1) → Q1 b H1) : Post K T W R as H Q1 r := by
  cases r with
  | ok a st => exact fun as' H' b e s r => hk a st as' H' b e s r (Post.shift e h)
  | exc c st => exact h
  | stuck => exact h
theorem Post.bindL {Q : VK} {Q1 : β → Hp → Prop} {r : Res α} {k : α → Hs → Res (List D)} (h : PostL K T W as H Q (r.bind k))
    (hk : ∀ a st1 as1 H1 b, Ext as H as1 H1 → Sim K T st1 as1 H1 → R as1 H1 a b → PostL K T W as1 H1 Q (k a st1) → Q1 b H1) : Post K T W R as H Q1 r := by
  cases r with
  | ok a st => exact fun as' H' b e s r => hk a st as' H' b e s r (PostL.shift e h)
  | exc c st => exact h
  | stuck => exact h
theorem PostL.bind {Q : δ → Hp → Prop} {Q1 : VK} {r : Res (List D)} {k : List D → Hs → Res γ} (h : Post K T W R2 as H Q (r.bind k))
    (hk : ∀ ds st1 as1 H1 p vs, Ext as H as1 H1 → Sim K T st1 as1 H1 → Reps K as1 H1 ds vs → H1 p = none → Post K T W R2 as1 H1 Q (k ds st1) → Q1 (.ref p) (upd H1 p (.lst vs))) : PostL K T W as H Q1 r := by
  cases r with
  | ok a st => exact fun as' H' p b e s r n => hk a st as' H' p b e s r n (Post.shift e h)
  | exc c st => exact h
  | stuck => exact h
theorem Post.here {Q : β → Hp → Prop} {a : α} {b : β} {st : Hs} (h : Post K T W R as H Q (.ok a st)) (s : Sim K T st as H) (r : R as H a b) : Q b H := h as H b (Ext.refl _ _) s r
theorem Post.ok1 {Q : β → Hp → Prop} {o : Option α} {st : Hs} (h : Post K T W R as H Q (ok1 st o)) : ∃ a, o = some a ∧ Post K T W R as H Q (.ok a st) := by
  cases o with
  | none => exact h.elim
  | some a => exact ⟨a, rfl, h⟩
theorem PostL.ok1 {Q : VK} {o : Option (List D)} {st : Hs} (h : PostL K T W as H Q (Rf.ok1 st o)) : ∃ a, o = some a ∧ PostL K T W as H Q (.ok a st) := by
  cases o with
  | none => exact h.elim
  | some a => exact ⟨a, rfl, h⟩
end
end Rf

/-! Rf: operations on values. -/
namespace Rf
open PySem PySem.Spec PyProof.Rows L2

/-! ### reading data -/
section
variable {K : PySem.W.Frag} {T : List (Addr × Str)} {st : Hs} {as : As} {H : Hp} {d : D} {v : V}
theorem rd_lst {ds : List D} (s : Sim K T st as H) (r : Rep K as H d v) (e : dr st d = .lst ds) : ∃ a vs, v = .ref a ∧ Rd H a (.lst vs) ∧ Reps K as H ds vs := by
  cases r with
  | lst h n nr q =>
    have e' : D.lst _ = D.lst ds := e
    cases e'
    exact ⟨_, _, rfl, h, q⟩
  | @ref n a h =>
    unfold dr at e
    dsimp only at e
    split at e
    · rename_i xs hn
      cases e
      obtain ⟨a', h1, _, vs, h2, h3⟩ := s.at hn
      rw [h] at h1
      cases h1
      exact ⟨a, vs, rfl, .inl h2, h3⟩
    · cases e
  | non => cases (show D.non = D.lst ds from e)
  | bl b => cases (show D.bl b = D.lst ds from e)
  | int b => cases (show D.int b = D.lst ds from e)
  | str b => cases (show D.str b = D.lst ds from e)
  | tup h q => cases (show D.tup _ = D.lst ds from e)
  | kl h q => cases (show D.kl _ = D.lst ds from e)
theorem dr_other (s : Sim K T st as H) (r : Rep K as H d v) (h : ∀ ds, dr st d ≠ .lst ds) (h2 : ∀ n, dr st d ≠ .ref n) : dr st d = d := by
  cases r with
  | @ref n a q =>
    unfold dr at h h2 ⊢
    dsimp only at h h2 ⊢
    split
    · rename_i xs hn
      rw [hn] at h
      exact absurd rfl (h xs)
    · rfl
  | _ => rfl
theorem rd_tup {ds : List D} (s : Sim K T st as H) (r : Rep K as H d v) (e : dr st d = .tup ds) : ∃ a vs, v = .ref a ∧ SqT K H a vs ∧ Reps K as H ds vs := by
  have := dr_other s r (by rw [e]; intro _ z; cases z) (by rw [e]; intro _ z; cases z)
  rw [e] at this
  subst this
  cases r with
  | tup h q => exact ⟨_, _, rfl, h, q⟩
theorem rd_kl {ds : List D} (s : Sim K T st as H) (r : Rep K as H d v) (e : dr st d = .kl ds) : ∃ a vs, v = .ref a ∧ SqL K H a vs ∧ Reps K as H ds vs := by
  have := dr_other s r (by rw [e]; intro _ z; cases z) (by rw [e]; intro _ z; cases z)
  rw [e] at this
  subst this
  cases r with
  | kl h q => exact ⟨_, _, rfl, h.sq, q⟩
theorem rd_int {i : Int} (s : Sim K T st as H) (r : Rep K as H d v) (e : dr st d = .int i) : v = .int i := by
  have := dr_other s r (by rw [e]; intro _ z; cases z) (by rw [e]; intro _ z; cases z)
  rw [e] at this
  subst this
  cases r
  rfl
theorem rd_str {x : Str} (s : Sim K T st as H) (r : Rep K as H d v) (e : dr st d = .str x) : v = .str x := by
  have := dr_other s r (by rw [e]; intro _ z; cases z) (by rw [e]; intro _ z; cases z)
  rw [e] at this
  subst this
  cases r
  rfl
theorem Rd.sq {a : Addr} {vs : List V} (h : Rd H a (.lst vs)) : SqL K H a vs := .inl h
end
theorem lenOk_le {α : Type} {ds : List α} (h : lenOk ds = true) : ds.length ≤ 100000 := Nat.le_of_ble_eq_true h
theorem lenOk_sz {α : Type} {ds : List α} (h : lenOk ds = true) : ds.length ≤ sizeLine := Nat.le_trans (lenOk_le h) (by rw [sizeLine_eq]; decide)
theorem bnd {a b : Bool} (h : (a && b) = true) : a = true ∧ b = true := Bool.and_eq_true_iff.mp h

/-! ### a list read, as an operand -/
section
variable {X : Cx}
theorem Inv.rdM {pins : List (Addr × Obj)} {σ : L2.St} {H : Hp} {s : Shared} {l : Addr} {xs : List V} (I : Inv X pins σ H s) (hH : Rd H l (.lst xs)) :
    xs.length ≤ sizeLine ∧ ∃ (its : List Value) (n : Nat), Vals xs its ∧ xs.length = its.length ∧ s.heap.get? l = some { cls := .type "list", data := .seq its.toArray n } := by
  obtain ⟨z, its, n, r, e⟩ := (show ObjOk X.prog X.w H s.heap l (.lst xs) from hH.ok I.hok)
  exact ⟨z, its, n, r, r.length, e⟩
def rCatR : R2 := fun x y H Q => ∃ l b xs zs, x = .ref l ∧ y = .ref b ∧ Rd H l (.lst xs) ∧ Rd H b (.lst zs) ∧ xs.length + zs.length ≤ sizeLine ∧ ∀ p, H p = none → Q (.ref p) (upd H p (.lst (xs ++ zs)))
theorem op_catR : OpR X (binaryOp .Add) rCatR := by
  intro pins s σ H x y v u Q I rx ry h
  obtain ⟨l, b, xs, zs, rfl, rfl, hH, hB, hz, q⟩ := h
  cases rx
  cases ry
  obtain ⟨z, its, n, r, hl, e⟩ := Inv.rdM I hH
  obtain ⟨z2, its2, n2, r2, hl2, e2⟩ := Inv.rdM I hB
  refine PySem.P.add_list e e2 ?_ (by rw [List.size_toArray, List.size_toArray]; omega)
  have ea : its.toArray ++ its2.toArray = (its ++ its2).toArray := by simp
  rw [ea]
  exact ⟨.ref _, _, I.lnew (t' := s.toks) (r.append r2) (by rw [List.length_append]; omega), rfl, q _ I.fresh⟩
def rRepR : R2 := fun x y H Q => ∃ l k xs, x = .ref l ∧ y = .int k ∧ Rd H l (.lst xs) ∧ -(2 ^ 63) ≤ k ∧ k < 2 ^ 63 ∧ xs.length * k.toNat ≤ sizeLine ∧
  ∀ p, H p = none → Q (.ref p) (upd H p (.lst (List.replicate k.toNat xs).flatten))
theorem op_repR : OpR X (binaryOp .Mult) rRepR := by
  intro pins s σ H x y v u Q I rx ry h
  obtain ⟨l, k, xs, rfl, rfl, hH, h1, h2, hz, q⟩ := h
  cases rx
  obtain ⟨t, rfl⟩ := ry
  obtain ⟨z, its, n, r, hl, e⟩ := Inv.rdM I hH
  have hlen : its.toArray.size * k.toNat ≤ sizeLine := by rw [List.size_toArray, ← hl]; exact hz
  have hcap : ¬ its.toArray.size * k.toNat > (2 ^ 63 - 1) / 8 := by
    have : (sizeLine : Nat) ≤ (2 ^ 63 - 1) / 8 := by decide
    omega
  have hfit : ¬ (!Builtin.List.listFitsIndex k) = true := by
    rw [fitsIndex_both h1 h2]
    exact Bool.false_ne_true
  have hlong : ¬ Builtin.List.listTooLong (its.toArray.size * k.toNat) = true := by
    rw [notLongL hlen]
    exact Bool.false_ne_true
  have hnew : List.foldl (fun x1 x2 => x1 ++ x2) #[] (List.replicate (if its.toArray.isEmpty = true then 0 else k.toNat) its.toArray) = (List.replicate k.toNat its).flatten.toArray := by
    have f0 : ∀ m : Nat, List.foldl (fun x1 x2 => x1 ++ x2) #[] (List.replicate m its.toArray) = (List.replicate m its).flatten.toArray := fun m => by
      have := foldl_rep its m []
      rw [List.nil_append] at this
      exact this
    rw [f0]
    cases its with
    | nil => simp
    | cons a r' => rw [if_neg (by simp)]
  refine wpAny_binaryOp_repeat_ref (T := "list") (U := "int") (by decide) ⟨_, e, rfl⟩ (fun s' => typeIs_int s' k t) noFill_list_mul F.fills_int_mul F.slot_int_rmul repeat_list F.slot_int_index.lookup
    (call_meets F.slot_int_rmul (typeIs_int s k t) F.entry_int_rmul (F.args_int_rmul_2 _ _) (int___rmul___int_list k t l its.toArray n)
      ⟨e, rfl, ⟨_, e, rfl⟩, call_meets F.slot_list_mul ⟨_, e, rfl⟩ F.entry_list_mul (F.args_list_mul_2 _ _) (AutoListH.list___mul___list_int_3 l its.toArray n k t hfit hcap hlong) ⟨e, ?_⟩⟩)
  rw [hnew]
  exact ⟨.ref _, _, I.lnew (t' := s.toks) (r.rep k.toNat) (by rw [PyProof.Rows.lm_len_rep_flat, Nat.mul_comm]; exact hz), rfl, q _ I.fresh⟩
/-- a tuple once -/
theorem tuple_mul1 (l : Addr) (items : Array Value) (n : Nat) (dd : Option Addr) (sl : Array (Option Value)) (u : Tok) :
    Meets (Builtin.«tuple.__mul__» ⟨[.ref l, .int 1 u], []⟩) (fun _ R s => s.heap.get? l = some { cls := .type "tuple", dict := dd, data := .seq items n, slots := sl } ∧ R (.ok (.ret (Value.ref l))) s) :=
  .of_wp fun prog w A R s h => by
    obtain ⟨hp, g, d, tk, os⟩ := s
    obtain ⟨hl, h⟩ := h
    have f1 := AutoSeq1.idx_int
    wp_walk using wpAny_loadPart' hl
    repeat (first
      | (refine wpAny_ite_false (decide_eq_false (by decide)) ?_; wp_walk using wpAny_loadPart' hl)
      | (refine wpAny_ite_true (decide_eq_true (by simp)) ?_; wp_walk using wpAny_loadPart' hl))
    all_goals exact ⟨_, rfl, h⟩
def rRepT1 (K : PySem.W.Frag) : R2 := fun x y H Q => ∃ l xs, x = .ref l ∧ y = .int 1 ∧ SqT K H l xs ∧ Q (.ref l) H
theorem op_repT1 : OpR X (binaryOp .Mult) (rRepT1 X.K) := by
  intro pins s σ H x y v u Q I rx ry h
  obtain ⟨l, xs, rfl, rfl, hT, q⟩ := h
  cases rx
  obtain ⟨t, rfl⟩ := ry
  obtain ⟨its, r, ⟨⟨cls, dd, data, sl⟩, ho, hc, n, hd⟩, hs⟩ := I.tuple hT
  simp only at hc hd
  subst hc hd
  exact wpAny_binaryOp_repeat_ref (T := "tuple") (U := "int") (by decide) ⟨_, ho, rfl⟩ (fun s' => typeIs_int s' 1 t) noFill_tuple_mul F.fills_int_mul F.slot_int_rmul repeat_tuple F.slot_int_index.lookup
    (call_meets F.slot_int_rmul (typeIs_int s 1 t) F.entry_int_rmul (F.args_int_rmul_2 _ _) (int_rmul_tuple 1 t l its.toArray n dd sl)
      ⟨ho, rfl, ⟨_, ho, rfl⟩, call_meets F.slot_tuple_mul ⟨_, ho, rfl⟩ F.entry_tuple_mul (F.args_tuple_mul_2 _ _) (tuple_mul1 l its.toArray n dd sl t) ⟨ho, ⟨.ref l, H, I, rfl, q⟩⟩⟩)
end
end Rf

namespace Rf
open PySem PySem.Spec PyProof.Rows L2

section
variable {K : PySem.W.Frag} {T : List (Addr × Str)} {W : Str → Hp → Prop} {st : Hs} {as : As} {H : Hp} {Q : VK} {a : Addr}
theorem notin_new (s : Sim K T st as H) (n : H a = none) : a ∉ as.l := fun h => by
  obtain ⟨o, ho, _⟩ := s.ok a h
  rw [n] at ho
  cases ho
theorem notin_res (s : Sim K T st as H) (n : H a = none) : a ∉ as.r := fun h => by
  obtain ⟨_, vs, ho⟩ := s.rs a h
  rw [n] at ho
  cases ho
theorem Post.newL {ds : List D} {vs : List V} (p : Post K T W (Rep K) as H Q (.ok (.lst ds) st)) (s : Sim K T st as H) (r : Reps K as H ds vs) (n : H a = none) : Q (.ref a) (upd H a (.lst vs)) :=
  p as _ _ (Ext.fresh n) (s.fresh n) (.lst (.inl upd_same) (notin_new s n) (notin_res s n) (r.ext (Ext.fresh n) s.ok))
theorem Post.newT {ds : List D} {vs : List V} (p : Post K T W (Rep K) as H Q (.ok (.tup ds) st)) (s : Sim K T st as H) (r : Reps K as H ds vs) (n : H a = none) : Q (.ref a) (upd H a (.tup vs)) :=
  p as _ _ (Ext.fresh n) (s.fresh n) (.tup (.inl (.inl upd_same)) (r.ext (Ext.fresh n) s.ok))
theorem PostL.new {ds : List D} {vs : List V} (p : PostL K T W as H Q (.ok ds st)) (s : Sim K T st as H) (r : Reps K as H ds vs) (n : H a = none) : Q (.ref a) (upd H a (.lst vs)) :=
  p as H a vs (Ext.refl _ _) s r n
end

def Op.py : Op → Operator
  | .add => .Add
  | .sub => .Sub
  | .mul => .Mult
  | .fdiv => .FloorDiv
  | .mod => .Mod
  | .pow => .Pow
def Cm.py : Cm → CmpOp
  | .eq => .Eq
  | .ne => .NotEq
  | .lt => .Lt
  | .le => .LtE
  | .gt => .Gt
  | .ge => .GtE
  | .in_ => .In
  | .nin => .NotIn
section
variable (X : Cx) (T : List (Addr × Str)) (W : Str → Hp → Prop)
def rV2 (f : D → D → Hs → Option D) : R2 := fun x y H Q => ∃ d e st as, Sim X.K T st as H ∧ Rep X.K as H d x ∧ Rep X.K as H e y ∧ Post X.K T W (Rep X.K) as H Q (ok1 st (f d e st))
def rV1 (f : D → Hs → Option D) : V → Hp → VK → Prop := fun x H Q => ∃ d st as, Sim X.K T st as H ∧ Rep X.K as H d x ∧ Post X.K T W (Rep X.K) as H Q (ok1 st (f d st))
def rVs (f : List D → Hs → Option D) : List V → Hp → VK → Prop := fun xs H Q => ∃ ds st as, Sim X.K T st as H ∧ Reps X.K as H ds xs ∧ Post X.K T W (Rep X.K) as H Q (ok1 st (f ds st))
/-- a new list of a value -/
def rL1 (f : D → Hs → Option (List D)) : List V → Hp → VK → Prop := fun xs H Q => ∃ d st as, Sim X.K T st as H ∧ Reps X.K as H [d] xs ∧ PostL X.K T W as H Q (ok1 st (f d st))
def rL2 (f : D → D → Hs → Option (List D)) : R2 := fun x y H Q => ∃ d e st as, Sim X.K T st as H ∧ Rep X.K as H d x ∧ Rep X.K as H e y ∧ PostL X.K T W as H Q (ok1 st (f d e st))
end
theorem natAbs64 {i : Int} (h : Nat.blt i.natAbs (2 ^ 64) = true) : -(2 ^ 64) < i ∧ i < 2 ^ 64 := by
  have h1 : i.natAbs < 2 ^ 64 := Nat.blt_eq.mp h
  omega
section
variable {X : Cx} {T : List (Addr × Str)} {W : Str → Hp → Prop}
theorem op_mulD {i j : Int} (h : mulOk i j = true) {pins : List (Addr × Obj)} {s : Shared} {σ : L2.St} {H : Hp} {v u : Value} {Q : VK} (I : Inv X pins σ H s) (rx : RelV (.int i) v) (ry : RelV (.int j) u) (q : Q (.int (i * j)) H) :
    wpAny (model X.prog X.w) X.A (binaryOp .Mult v u) (EP X pins σ Q) X.xe s := by
  unfold mulOk at h
  rcases (Bool.or_eq_true _ _).mp h with h | h
  · refine op_mul pins s σ H _ _ v u Q I rx ry ⟨i, j, rfl, rfl, ?_, q⟩
    rcases (Bool.or_eq_true _ _).mp h with h | h
    · exact .inl (natAbs64 h)
    · exact .inr (natAbs64 h)
  · exact op_mulW pins s σ H _ _ v u Q I rx ry ⟨i, j, rfl, rfl, Nat.blt_eq.mp h, q⟩
theorem rept_len {α : Type} (n : Nat) (xs : List α) : ((List.replicate n xs).flatten).length = n * xs.length := by simp
theorem op_bin (op : Op) : OpR X (binaryOp op.py) (rV2 X T W fun d e st => binV op (dr st d) (dr st e)) := by
  intro pins s σ H x y v u Q I rx ry h
  obtain ⟨d, e, st, as, S, r1, r2, p⟩ := h
  obtain ⟨z, hz, p⟩ := p.ok1
  cases op with
  | add =>
    simp only [binV] at hz
    split at hz
    · rename_i i j e1 e2
      cases hz
      cases rd_int S r1 e1
      cases rd_int S r2 e2
      exact op_add pins s σ H _ _ v u Q I rx ry ⟨i, j, rfl, rfl, p.here S (.int _)⟩
    · rename_i i j e1 e2
      split at hz
      · rename_i hl
        cases hz
        cases rd_str S r1 e1
        cases rd_str S r2 e2
        have l1 := lenOk_le (bnd hl).1
        have l2 := lenOk_le (bnd hl).2
        refine op_add_str pins s σ H _ _ v u Q I rx ry ⟨i, j, rfl, rfl, ?_, p.here S (.str _)⟩
        rw [sizeLine_eq]
        simp only [Array.length_toList] at l1 l2
        show i.cps.size + j.cps.size ≤ _
        omega
      · cases hz
    · rename_i xs ys e1 e2
      split at hz
      · rename_i hl
        cases hz
        obtain ⟨a, vs, rfl, q1, w1⟩ := rd_tup S r1 e1
        obtain ⟨b, us, rfl, q2, w2⟩ := rd_tup S r2 e2
        have l1 := lenOk_le (bnd hl).1
        have l2 := lenOk_le (bnd hl).2
        refine op_catA pins s σ H _ _ v u Q I rx ry ⟨a, b, vs, us, rfl, rfl, q1, q2, ?_, ?_⟩
        · rw [sizeLine_eq, ← w1.length, ← w2.length]
          omega
        · refine ⟨fun h0 => ?_, fun _ h0 => ?_, fun _ _ c n => p.newT S (w1.append w2) n⟩
          · have e0 : xs = [] := List.eq_nil_of_length_eq_zero (by rw [w1.length, h0]; rfl)
            rw [e0, List.nil_append] at p
            exact p.here S (.tup q2 w2)
          · have e0 : ys = [] := List.eq_nil_of_length_eq_zero (by rw [w2.length, h0]; rfl)
            rw [e0, List.append_nil] at p
            exact p.here S (.tup q1 w1)
      · cases hz
    · rename_i xs ys e1 e2
      split at hz
      · rename_i hl
        cases hz
        obtain ⟨a, vs, rfl, q1, w1⟩ := rd_lst S r1 e1
        obtain ⟨b, us, rfl, q2, w2⟩ := rd_lst S r2 e2
        have l1 := lenOk_le (bnd hl).1
        have l2 := lenOk_le (bnd hl).2
        refine op_catR pins s σ H _ _ v u Q I rx ry ⟨a, b, vs, us, rfl, rfl, q1, q2, ?_, fun c n => p.newL S (w1.append w2) n⟩
        rw [sizeLine_eq, ← w1.length, ← w2.length]
        omega
      · cases hz
    · cases hz
  | sub =>
    simp only [binV] at hz
    split at hz
    · rename_i i j e1 e2
      cases hz
      cases rd_int S r1 e1
      cases rd_int S r2 e2
      exact op_sub pins s σ H _ _ v u Q I rx ry ⟨i, j, rfl, rfl, p.here S (.int _)⟩
    · cases hz
  | mul =>
    simp only [binV] at hz
    split at hz
    · rename_i i j e1 e2
      split at hz
      · rename_i hl
        cases hz
        cases rd_int S r1 e1
        cases rd_int S r2 e2
        exact op_mulD hl I rx ry (p.here S (.int _))
      · cases hz
    · rename_i xs k e1 e2
      split at hz
      · rename_i hl
        cases hz
        obtain ⟨hl, h3⟩ := bnd hl
        obtain ⟨h1, h2⟩ := bnd hl
        have h2 := of_decide_eq_true h2
        have h3 := of_decide_eq_true h3
        have l1 := lenOk_le h1
        obtain ⟨a, vs, rfl, q1, w1⟩ := rd_lst S r1 e1
        cases rd_int S r2 e2
        refine op_repR pins s σ H _ _ v u Q I rx ry ⟨a, k, vs, rfl, rfl, q1, by omega, by omega, ?_, fun c n => p.newL S (w1.rept _) n⟩
        rw [sizeLine_eq, ← w1.length]
        have a1 : xs.length * k.toNat ≤ 100000 * 100 := Nat.mul_le_mul l1 (by omega)
        omega
      · cases hz
    · rename_i xs k e1 e2
      split at hz
      · rename_i hl
        cases hz
        obtain ⟨hl, h4⟩ := bnd hl
        obtain ⟨hl, h3⟩ := bnd hl
        obtain ⟨h1, h2⟩ := bnd hl
        have h1 := Nat.le_of_ble_eq_true h1
        have h2 := of_decide_eq_true h2
        have h3 := of_decide_eq_true h3
        obtain ⟨a, vs, rfl, q1, w1⟩ := rd_tup S r1 e1
        cases rd_int S r2 e2
        by_cases hk : k = 1
        · subst hk
          refine op_repT1 pins s σ H _ _ v u Q I rx ry ⟨a, vs, rfl, rfl, q1, ?_⟩
          have e3 : rept (Int.toNat 1) xs = xs := by simp [rept]
          rw [e3] at p
          exact p.here S (.tup q1 w1)
        · refine op_repT pins s σ H _ _ v u Q I rx ry ⟨a, k, vs, rfl, rfl, q1, ?_, by omega, by omega, by rw [← w1.length]; exact h1, fun c n => p.newT S (w1.rept _) n⟩
          intro e0
          have := w1.length
          rw [e0] at this
          have e5 : xs = [] := List.eq_nil_of_length_eq_zero this
          rw [e5] at h4
          cases h4
      · cases hz
    · cases hz
  | fdiv =>
    simp only [binV] at hz
    split at hz
    · rename_i i j e1 e2
      split at hz
      · rename_i hl
        cases hz
        cases rd_int S r1 e1
        cases rd_int S r2 e2
        obtain ⟨h1, h2⟩ := bnd hl
        exact op_fdivW pins s σ H _ _ v u Q I rx ry ⟨i, j, rfl, rfl, ⟨of_decide_eq_true h1, Nat.blt_eq.mp h2⟩, p.here S (.int _)⟩
      · cases hz
    · cases hz
  | mod =>
    simp only [binV] at hz
    split at hz
    · rename_i i j e1 e2
      split at hz
      · rename_i hl
        cases hz
        cases rd_int S r1 e1
        cases rd_int S r2 e2
        exact op_mod pins s σ H _ _ v u Q I rx ry ⟨i, j, rfl, rfl, of_decide_eq_true hl, p.here S (.int _)⟩
      · cases hz
    · cases hz
  | pow =>
    simp only [binV] at hz
    split at hz
    · rename_i i j e1 e2
      split at hz
      · rename_i hl
        cases hz
        cases rd_int S r1 e1
        cases rd_int S r2 e2
        obtain ⟨hl, h3⟩ := bnd hl
        obtain ⟨h1, h2⟩ := bnd hl
        have h1 := of_decide_eq_true h1
        have h2 := of_decide_eq_true h2
        exact op_pow pins s σ H _ _ v u Q I rx ry ⟨i, j, rfl, rfl, ⟨h1, by omega, Nat.blt_eq.mp h3⟩, p.here S (.int _)⟩
      · cases hz
    · cases hz

/-! ### comparisons -/
mutual
def toP : D → PyData
  | .non => .none
  | .bl b => .bool b
  | .int i => .int i
  | .str x => .str x
  | .tup ds => .tuple (toPs ds)
  | .lst ds => .list (toPs ds)
  | .kl ds => .list (toPs ds)
  | .ref _ => .none
  | .exc _ => .none
def toPs : List D → List PyData
  | [] => []
  | d :: ds => toP d :: toPs ds
end
theorem toPs_map : ∀ ds : List D, toPs ds = ds.map toP
  | [] => rfl
  | d :: ds => by rw [toPs, toPs_map ds]; rfl
mutual
theorem eqv_toP : ∀ (n : Nat) (a b : D), shD n a = true → shD n b = true → PyData.eqv (toP a) (toP b) = eqD a b
  | n, .non, b, _, h2 => by cases b <;> simp_all [toP, eqD, PyData.eqv, shD]
  | n, .bl x, b, _, h2 => by cases b <;> simp_all [toP, eqD, PyData.eqv, shD]
  | n, .int x, b, _, h2 => by cases b <;> simp_all [toP, eqD, PyData.eqv, shD]
  | n, .str x, b, _, h2 => by cases b <;> simp_all [toP, eqD, PyData.eqv, shD]
  | 0, .tup xs, b, h1, _ => by simp [shD] at h1
  | n + 1, .tup xs, b, h1, h2 => by
    cases b with
    | tup ys => simp only [toP, eqD, PyData.eqv]; exact eqvs_toP n xs ys (by simpa [shD] using h1) (by simpa [shD] using h2)
    | _ => simp_all [toP, eqD, PyData.eqv, shD]
  | 0, .lst xs, b, h1, _ => by simp [shD] at h1
  | n + 1, .lst xs, b, h1, h2 => by
    cases b with
    | lst ys => simp only [toP, eqD, PyData.eqv]; exact eqvs_toP n xs ys (by simpa [shD] using h1) (by simpa [shD] using h2)
    | kl ys => simp only [toP, eqD, PyData.eqv]; exact eqvs_toP n xs ys (by simpa [shD] using h1) (by simpa [shD] using h2)
    | _ => simp_all [toP, eqD, PyData.eqv, shD]
  | 0, .kl xs, b, h1, _ => by simp [shD] at h1
  | n + 1, .kl xs, b, h1, h2 => by
    cases b with
    | lst ys => simp only [toP, eqD, PyData.eqv]; exact eqvs_toP n xs ys (by simpa [shD] using h1) (by simpa [shD] using h2)
    | kl ys => simp only [toP, eqD, PyData.eqv]; exact eqvs_toP n xs ys (by simpa [shD] using h1) (by simpa [shD] using h2)
    | _ => simp_all [toP, eqD, PyData.eqv, shD]
  | n, .ref _, b, h1, _ => by simp [shD] at h1
  | n, .exc _, b, h1, _ => by simp [shD] at h1
theorem eqvs_toP : ∀ (n : Nat) (a b : List D), shDs n a = true → shDs n b = true → PyData.eqvAll (toPs a) (toPs b) = eqDs a b
  | n, [], b, _, _ => by cases b <;> simp [toPs, eqDs, PyData.eqvAll]
  | n, x :: xs, b, h1, h2 => by
    cases b with
    | nil => simp [toPs, eqDs, PyData.eqvAll]
    | cons y ys =>
      have h1' : shD n x = true ∧ shDs n xs = true := by simpa [shDs] using h1
      have h2' : shD n y = true ∧ shDs n ys = true := by simpa [shDs] using h2
      simp only [toPs, eqDs, PyData.eqvAll]
      rw [eqv_toP n x y h1'.1 h2'.1, eqvs_toP n xs ys h1'.2 h2'.2]
end
theorem strOkB_ok {x : Str} (h : strOkB x = true) : PyData.strOk x = true := by
  unfold strOkB at h
  unfold PyData.strOk
  rw [← Array.all_toList]
  rw [List.all_eq_true] at h ⊢
  intro c hc
  exact decide_eq_true (Nat.blt_eq.mp (h c hc))
mutual
theorem lay_toP : ∀ (n : Nat) (a : D), shD n a = true → (toP a).canLay0 = true ∧ (toP a).depth ≤ n
  | n, .non, _ => by simp [toP, PyData.canLay0, PyData.depth]
  | n, .bl x, _ => by simp [toP, PyData.canLay0, PyData.depth]
  | n, .int x, _ => by simp [toP, PyData.canLay0, PyData.depth]
  | n, .str x, h => by
    have h' : strOkB x = true := by cases n <;> simpa [shD] using h
    simp [toP, PyData.canLay0, PyData.depth, strOkB_ok h']
  | 0, .tup xs, h1 => by simp [shD] at h1
  | n + 1, .tup xs, h1 => by
    obtain ⟨a, b⟩ := lays_toP n xs (by simpa [shD] using h1)
    simp only [toP, PyData.canLay0, PyData.depth]
    exact ⟨a, Nat.succ_le_succ b⟩
  | 0, .lst xs, h1 => by simp [shD] at h1
  | n + 1, .lst xs, h1 => by
    obtain ⟨a, b⟩ := lays_toP n xs (by simpa [shD] using h1)
    simp only [toP, PyData.canLay0, PyData.depth]
    exact ⟨a, Nat.succ_le_succ b⟩
  | 0, .kl xs, h1 => by simp [shD] at h1
  | n + 1, .kl xs, h1 => by
    obtain ⟨a, b⟩ := lays_toP n xs (by simpa [shD] using h1)
    simp only [toP, PyData.canLay0, PyData.depth]
    exact ⟨a, Nat.succ_le_succ b⟩
  | n, .ref _, h1 => by simp [shD] at h1
  | n, .exc _, h1 => by simp [shD] at h1
theorem lays_toP : ∀ (n : Nat) (a : List D), shDs n a = true → PyData.canLayAll0 (toPs a) = true ∧ PyData.depthAll (toPs a) ≤ n
  | n, [], _ => by simp [toPs, PyData.canLayAll0, PyData.depthAll]
  | n, x :: xs, h => by
    have h' : shD n x = true ∧ shDs n xs = true := by simpa [shDs] using h
    obtain ⟨a, b⟩ := lay_toP n x h'.1
    obtain ⟨c, d⟩ := lays_toP n xs h'.2
    simp only [toPs, PyData.canLayAll0, PyData.depthAll, a, c]
    exact ⟨rfl, Nat.max_le.mpr ⟨b, d⟩⟩
end
theorem shaped_toP {n : Nat} {a : D} (h : shD n a = true) (hn : n ≤ 64) : SeqAt.shaped (toP a) = true := by
  obtain ⟨h1, h2⟩ := lay_toP n a h
  unfold SeqAt.shaped
  rw [h1, decide_eq_true (Nat.le_trans h2 hn)]
  rfl
section
variable {K : PySem.W.Frag} {T : List (Addr × Str)} {st : Hs} {as : As} {H : Hp}
mutual
theorem dp_of : ∀ (n : Nat) {d : D} {v : V}, shD n d = true → Rep K as H d v → Dp K H v (toP d)
  | n, _, _, _, .non => by simp only [toP]; exact .non
  | n, _, _, _, .bl b => by simp only [toP]; exact .bl b
  | n, _, _, _, .int b => by simp only [toP]; exact .int b
  | n, _, _, _, .str b => by simp only [toP]; exact .str b
  | 0, _, _, h, .tup _ _ => by simp [shD] at h
  | n + 1, _, _, h, .tup q r => by simp only [toP]; exact .tup q (dps_of n (by simpa [shD] using h) r)
  | 0, _, _, h, .lst _ _ _ _ => by simp [shD] at h
  | n + 1, _, _, h, .lst q _ _ r => by simp only [toP]; exact .lst (.inl q) (dps_of n (by simpa [shD] using h) r)
  | n, _, _, h, .ref _ => by simp [shD] at h
  | 0, _, _, h, .kl _ _ => by simp [shD] at h
  | n + 1, _, _, h, .kl q r => by simp only [toP]; exact .lst q.sq (dps_of n (by simpa [shD] using h) r)
theorem dps_of : ∀ (n : Nat) {d : List D} {v : List V}, shDs n d = true → Reps K as H d v → DpAll K H v (toPs d)
  | n, _, _, _, .nil => by simp only [toPs]; exact .nil
  | n, _, _, h, .cons a b => by
    simp only [shDs, Bool.and_eq_true] at h
    simp only [toPs]
    exact .cons (dp_of n h.1 a) (dps_of n h.2 b)
end
theorem dp_dr {d : D} {v : V} {n : Nat} (s : Sim K T st as H) (r : Rep K as H d v) (h : shD n (dr st d) = true) : Dp K H v (toP (dr st d)) := by
  cases e : dr st d with
  | lst ds =>
    obtain ⟨a, vs, rfl, q, w⟩ := rd_lst s r e
    rw [e] at h
    cases n with
    | zero => simp [shD] at h
    | succ n =>
      simp only [toP]
      exact .lst (.inl q) (dps_of n (by simpa [shD] using h) w)
  | ref m =>
    rw [e] at h
    simp [shD] at h
  | _ =>
    have := dr_other s r (by rw [e]; intro _ z; cases z) (by rw [e]; intro _ z; cases z)
    rw [← e, this]
    rw [this] at h
    exact dp_of n h r
end
end
end Rf

namespace Rf
open PySem PySem.Spec PyProof.Rows L2
section
variable {X : Cx}
def rInT (K : PySem.W.Frag) (neg : Bool) : R2 := fun x y H Q => ∃ d ds, Dp K H x d ∧ Dp K H y (.tuple ds) ∧ SeqAt.shaped d = true ∧ SeqAt.shaped (.tuple ds) = true ∧ Q (.bl (if neg then !ds.any (fun z => PyData.eqv z d) else ds.any fun z => PyData.eqv z d)) H
theorem op_inT (hu : X.A.units + 65 < cLine) : OpR X (compareOp .In) (rInT X.K false) := by
  intro pins s σ H x y v u Q I rx ry h
  obtain ⟨d, ds, hd, he, sd, se, q⟩ := h
  obtain ⟨as, r1⟩ := Dp.reads I d x v hd rx
  obtain ⟨bs, r2⟩ := Dp.reads I (.tuple ds) y u he ry
  exact SeqAt.in_tuple_reads r2 r1 (SeqAt.canLay_of_shaped se) (SeqAt.canLay_of_shaped sd) (room_in_shaped sd hu) ⟨.bl _, H, I, rfl, q⟩
theorem op_notInT (hu : X.A.units + 65 < cLine) : OpR X (compareOp .NotIn) (rInT X.K true) := by
  intro pins s σ H x y v u Q I rx ry h
  obtain ⟨d, ds, hd, he, sd, se, q⟩ := h
  obtain ⟨as, r1⟩ := Dp.reads I d x v hd rx
  obtain ⟨bs, r2⟩ := Dp.reads I (.tuple ds) y u he ry
  exact SeqAt.notIn_tuple_reads r2 r1 (SeqAt.canLay_of_shaped se) (SeqAt.canLay_of_shaped sd) (room_in_shaped sd hu) ⟨.bl _, H, I, rfl, q⟩
end
theorem any_toPs (n : Nat) (a : D) (ha : shD n a = true) : ∀ ds : List D, shDs n ds = true → (toPs ds).any (fun z => PyData.eqv z (toP a)) = ds.any fun d => eqD d a
  | [], _ => rfl
  | d :: ds, h => by
    have h' : shD n d = true ∧ shDs n ds = true := by simpa [shDs] using h
    simp only [toPs, List.any_cons]
    rw [any_toPs n a ha ds h'.2, eqv_toP n d a h'.1 ha]
theorem shD_succ_l {n : Nat} {ds : List D} : shD (n + 1) (.lst ds) = shDs n ds := by simp [shD]
theorem shD_succ_t {n : Nat} {ds : List D} : shD (n + 1) (.tup ds) = shDs n ds := by simp [shD]
section
variable {X : Cx} {T : List (Addr × Str)} {W : Str → Hp → Prop}
theorem op_cmp (hu : X.A.units + 65 < cLine) (op : Cm) : OpR X (compareOp op.py) (rV2 X T W fun d e st => (cmpV op (dr st d) (dr st e)).map .bl) := by
  intro pins s σ H x y v u Q I rx ry h
  obtain ⟨d, e, st, as, S, r1, r2, p⟩ := h
  obtain ⟨z, hz, p⟩ := p.ok1
  obtain ⟨b, hz', rfl⟩ := Option.map_eq_some_iff.mp hz
  clear hz
  have hz := hz'
  clear hz'
  have q := p.here S (.bl b)
  have hnt : ∀ (g : Int → Int → Bool), (match dr st d, dr st e with | .int i, .int j => some (g i j) | _, _ => none) = some b → ∃ i j, x = .int i ∧ y = .int j ∧ b = g i j := fun g hg => by
    split at hg
    · rename_i i j e1 e2
      cases hg
      exact ⟨i, j, rd_int S r1 e1, rd_int S r2 e2, rfl⟩
    · cases hg
  cases op with
  | eq =>
    simp only [cmpV] at hz
    split at hz
    · rename_i hs
      obtain ⟨s1, s2⟩ := bnd hs
      refine op_eqD (Nat.lt_trans (by omega) hu) pins s σ H x y v u Q I rx ry ⟨_, _, dp_dr S r1 s1, dp_dr S r2 s2, shaped_toP s1 (by decide), shaped_toP s2 (by decide), ?_⟩
      rw [eqv_toP 60 _ _ s1 s2]
      cases hz
      exact q
    · cases hz
  | ne =>
    simp only [cmpV] at hz
    split at hz
    · rename_i hs
      obtain ⟨s1, s2⟩ := bnd hs
      refine op_neD (Nat.lt_trans (by omega) hu) pins s σ H x y v u Q I rx ry ⟨_, _, dp_dr S r1 s1, dp_dr S r2 s2, shaped_toP s1 (by decide), shaped_toP s2 (by decide), ?_⟩
      rw [eqv_toP 60 _ _ s1 s2]
      cases hz
      exact q
    · cases hz
  | lt =>
    obtain ⟨i, j, rfl, rfl, rfl⟩ := hnt (fun i j => decide (i < j)) hz
    exact op_lt pins s σ H _ _ v u Q I rx ry ⟨i, j, rfl, rfl, q⟩
  | le =>
    obtain ⟨i, j, rfl, rfl, rfl⟩ := hnt (fun i j => decide (i ≤ j)) hz
    exact op_le pins s σ H _ _ v u Q I rx ry ⟨i, j, rfl, rfl, q⟩
  | gt =>
    obtain ⟨i, j, rfl, rfl, rfl⟩ := hnt (fun i j => decide (j < i)) hz
    exact op_gt pins s σ H _ _ v u Q I rx ry ⟨i, j, rfl, rfl, q⟩
  | ge =>
    obtain ⟨i, j, rfl, rfl, rfl⟩ := hnt (fun i j => decide (j ≤ i)) hz
    exact op_ge pins s σ H _ _ v u Q I rx ry ⟨i, j, rfl, rfl, q⟩
  | in_ =>
    simp only [cmpV] at hz
    unfold cmpV.inV at hz
    split at hz
    · rename_i ds e2
      split at hz
      · rename_i hs
        obtain ⟨s1, s2⟩ := bnd hs
        have s3 : shD 61 (dr st e) = true := by rw [e2, shD_succ_l]; exact s2
        have dp := dp_dr S r2 s3
        rw [e2] at dp
        simp only [toP] at dp
        have sh := shaped_toP (n := 61) s3 (by decide)
        rw [e2] at sh
        simp only [toP] at sh
        refine op_inD hu pins s σ H x y v u Q I rx ry ⟨_, _, dp_dr S r1 s1, dp, shaped_toP s1 (by decide), sh, ?_⟩
        rw [any_toPs 60 _ s1 ds s2]
        cases hz
        exact q
      · cases hz
    · rename_i ds e2
      split at hz
      · rename_i hs
        obtain ⟨s1, s2⟩ := bnd hs
        have s3 : shD 61 (dr st e) = true := by rw [e2, shD_succ_t]; exact s2
        have dp := dp_dr S r2 s3
        rw [e2] at dp
        simp only [toP] at dp
        have sh := shaped_toP (n := 61) s3 (by decide)
        rw [e2] at sh
        simp only [toP] at sh
        refine op_inT hu pins s σ H x y v u Q I rx ry ⟨_, _, dp_dr S r1 s1, dp, shaped_toP s1 (by decide), sh, ?_⟩
        rw [any_toPs 60 _ s1 ds s2]
        cases hz
        exact q
      · cases hz
    · rename_i y' e2
      split at hz
      · rename_i x' e1
        split at hz
        · rename_i c hc
          cases hz
          cases rd_str S r1 e1
          cases rd_str S r2 e2
          have ex : x' = ⟨#[c]⟩ := by
            cases x' with
            | mk cps =>
              have : cps = #[c] := by
                have := congrArg List.toArray hc
                simpa using this
              rw [this]
          refine op_in_sign pins s σ H _ _ v u Q I rx ry ⟨c, y', by rw [ex], rfl, ?_⟩
          rw [show decide (c ∈ y'.cps.toList) = y'.cps.toList.contains c by rw [List.contains_eq_mem]]
          exact q
        · cases hz
      · cases hz
    · cases hz
  | nin =>
    simp only [cmpV] at hz
    obtain ⟨b', hz2, rfl⟩ := Option.map_eq_some_iff.mp hz
    clear hz
    unfold cmpV.inV at hz2
    split at hz2
    · rename_i ds e2
      split at hz2
      · rename_i hs
        obtain ⟨s1, s2⟩ := bnd hs
        have s3 : shD 61 (dr st e) = true := by rw [e2, shD_succ_l]; exact s2
        have dp := dp_dr S r2 s3
        rw [e2] at dp
        simp only [toP] at dp
        have sh := shaped_toP (n := 61) s3 (by decide)
        rw [e2] at sh
        simp only [toP] at sh
        refine op_notInD hu pins s σ H x y v u Q I rx ry ⟨_, _, dp_dr S r1 s1, dp, shaped_toP s1 (by decide), sh, ?_⟩
        rw [any_toPs 60 _ s1 ds s2]
        cases hz2
        exact q
      · cases hz2
    · rename_i ds e2
      split at hz2
      · rename_i hs
        obtain ⟨s1, s2⟩ := bnd hs
        have s3 : shD 61 (dr st e) = true := by rw [e2, shD_succ_t]; exact s2
        have dp := dp_dr S r2 s3
        rw [e2] at dp
        simp only [toP] at dp
        have sh := shaped_toP (n := 61) s3 (by decide)
        rw [e2] at sh
        simp only [toP] at sh
        refine op_notInT hu pins s σ H x y v u Q I rx ry ⟨_, _, dp_dr S r1 s1, dp, shaped_toP s1 (by decide), sh, ?_⟩
        rw [any_toPs 60 _ s1 ds s2]
        cases hz2
        exact q
      · cases hz2
    · rename_i y' e2
      split at hz2
      · rename_i x' e1
        split at hz2
        · rename_i c hc
          cases hz2
          cases rd_str S r1 e1
          cases rd_str S r2 e2
          have ex : x' = ⟨#[c]⟩ := by
            cases x' with
            | mk cps =>
              have : cps = #[c] := by
                have := congrArg List.toArray hc
                simpa using this
              rw [this]
          refine op_notIn_sign pins s σ H _ _ v u Q I rx ry ⟨c, y', by rw [ex], rfl, ?_⟩
          rw [show decide (c ∈ y'.cps.toList) = y'.cps.toList.contains c by rw [List.contains_eq_mem]]
          exact q
        · cases hz2
      · cases hz2
    · cases hz2
end
end Rf

/-! Rf: built-ins. -/
namespace Rf
open PySem PySem.Spec PyProof.Rows L2
section
variable {prog : Program} {w : World} {A : Around} {E : Value → Shared → Prop} {s : Shared} {l : Addr} {xs : Array (Int × Tok)}
theorem iter_tupG {items : Array Value} {Q : Value → Shared → Prop} (hl : s.heap.IsTuple l items)
    (h : ∀ s₂ : Shared, s₂ = { s with heap := s.heap.push { cls := .type "tuple_iterator", data := .fields #[.ref l, .int 0 0] } } →
      (s₂.heap.IsTupleIter s.heap.objs.size l 0 ∧ s₂.heap.IsTuple l items) → (∀ b ∈ [s.heap.objs.size, l], b < s₂.heap.objs.size) → l ≠ s.heap.objs.size → Q (.ref s.heap.objs.size) s₂) :
    wpAny (model prog w) A (pyIter (.ref l)) Q E s := by
  have hlt : l < s.heap.objs.size := by obtain ⟨_, e, _⟩ := hl; exact Heap.lt_size e
  refine wpAny_pyIter_tuple hl (h _ rfl ⟨⟨_, Heap.get?_push_size _ rfl, rfl, rfl⟩, hl.push _⟩ (fun b hb => ?_) (Nat.ne_of_lt hlt))
  show b < (s.heap.push _).objs.size
  rw [Heap.size_push]
  rcases List.mem_cons.mp hb with rfl | hb
  · exact Nat.lt_succ_self _
  · rcases List.mem_cons.mp hb with rfl | hb
    · exact Nat.lt_succ_of_lt hlt
    · cases hb
theorem old_keptT {h' : Heap} (hk : ∀ b o, b ∉ [s.heap.objs.size] → (s.heap.push { cls := .type "tuple_iterator", data := .fields #[.ref l, .int 0 0] }).get? b = some o → h'.get? b = some o) :
    ∀ b o, s.heap.get? b = some o → h'.get? b = some o := fun b o e => by
  refine hk b o (fun hm => ?_) (Heap.get?_push_of_some _ e)
  rcases List.mem_cons.mp hm with e1 | hm
  · exact absurd (e1 ▸ Heap.lt_size e) (Nat.lt_irrefl _)
  · cases hm
theorem max_intTup {Q : Value → Shared → Prop} (hh : A.handled = none) (hl : s.heap.IsTuple l (intItems xs)) (hne : 0 < xs.size)
    (h : ∀ v h' tk, (intItems xs)[argBest (fun i j => decide (numAt xs i > numAt xs j)) (xs.size - 1)]? = some v → (∀ b o, s.heap.get? b = some o → h'.get? b = some o) → Q v { s with heap := h', toks := tk }) :
    wpAny (model prog w) A (call (.builtin "max") [.ref l]) Q E s := by
  refine call_max_walk (iter_tupG hl fun s₂ e st hfp hlI => ?_)
  subst e
  refine ⟨_, _, _, _, _, _, _, rfl, Walks.tuple (A := A.in1) hh _ l hlI (intItems xs), st, hfp, by simpa [intItems] using hne, CmpOf.ints_gt (numAt xs) (fun _ _ => intItems_at), fun v h' tk hP hk => ?_⟩
  exact h v h' tk (by simpa [intItems] using hP) (old_keptT hk)
theorem min_intTup {Q : Value → Shared → Prop} (hh : A.handled = none) (hl : s.heap.IsTuple l (intItems xs)) (hne : 0 < xs.size)
    (h : ∀ v h' tk, (intItems xs)[argBest (fun i j => decide (numAt xs i < numAt xs j)) (xs.size - 1)]? = some v → (∀ b o, s.heap.get? b = some o → h'.get? b = some o) → Q v { s with heap := h', toks := tk }) :
    wpAny (model prog w) A (call (.builtin "min") [.ref l]) Q E s := by
  refine call_min_walk (iter_tupG hl fun s₂ e st hfp hlI => ?_)
  subst e
  refine ⟨_, _, _, _, _, _, _, rfl, Walks.tuple (A := A.in1) hh _ l hlI (intItems xs), st, hfp, by simpa [intItems] using hne, CmpOf.ints_lt (numAt xs) (fun _ _ => intItems_at), fun v h' tk hP hk => ?_⟩
  exact h v h' tk (by simpa [intItems] using hP) (old_keptT hk)
theorem sum_intTup {Q : Value → Shared → Prop} (hh : A.handled = none) (hl : s.heap.IsTuple l (intItems xs))
    (h : ∀ h' tk t', (∀ b o, s.heap.get? b = some o → h'.get? b = some o) → Q (.int (preSum (numAt xs) xs.size) t') { s with heap := h', toks := tk }) :
    wpAny (model prog w) A (call (.builtin "sum") [.ref l]) Q E s := by
  refine call_sum_walkG (iter_tupG hl fun s₂ e st hfp hlI => ?_)
  subst e
  refine ⟨_, _, _, _, _, _, numAt xs, rfl, Walks.tuple (A := A.in1) hh _ l hlI (intItems xs), st, hfp, (fun _ _ => intItems_at), fun h' tk t' hk => ?_⟩
  have := h h' tk t' (old_keptT hk)
  simpa [intItems] using this
variable {its : List Value} {ns : List Int} {Q : Value → Shared → Prop}
theorem sum_rawT (hh : A.handled = none) (hl : s.heap.IsTuple l its.toArray) (hi : IntsAre its ns)
    (h : ∀ h' tk t', (∀ b o, s.heap.get? b = some o → h'.get? b = some o) → Q (.int ns.sum t') { s with heap := h', toks := tk }) : wpAny (model prog w) A (call (.builtin "sum") [.ref l]) Q E s := by
  obtain ⟨xs, e⟩ := hi.allInts.items
  have hn : numsOf (intItems xs).toList = ns := by rw [← e]; exact hi.numsOf
  rw [nums_intItems] at hn
  rw [e] at hl
  refine sum_intTup hh hl fun h' tk t' hk => ?_
  have := h h' tk t' hk
  rw [preSum_eq, List.take_of_length_le (by simp), hn]; exact this
theorem max_rawT (hh : A.handled = none) (hl : s.heap.IsTuple l its.toArray) (hi : IntsAre its ns) (hne : 0 < ns.length)
    (h : ∀ h' tk M t', (∀ b o, s.heap.get? b = some o → h'.get? b = some o) → M ∈ ns → (∀ a, a ∈ ns → a ≤ M) → Q (.int M t') { s with heap := h', toks := tk }) : wpAny (model prog w) A (call (.builtin "max") [.ref l]) Q E s := by
  obtain ⟨xs, e⟩ := hi.allInts.items
  have hn : numsOf (intItems xs).toList = ns := by rw [← e]; exact hi.numsOf
  rw [nums_intItems] at hn
  subst hn
  rw [e] at hl
  have hsz : 0 < xs.size := by simpa using hne
  refine max_intTup hh hl hsz fun v h' tk hv hk => ?_
  obtain ⟨t, rfl⟩ := intItems_at hv
  obtain ⟨h1, h2⟩ := argBest_gt (numAt xs) (xs.size - 1)
  refine h h' tk _ t hk ?_ fun a ha => ?_
  · rw [numAt_eq]; exact PySem.getD_mem (by rw [List.length_map, Array.length_toList]; omega)
  · obtain ⟨j, hj, rfl⟩ := mem_getD ha
    rw [List.length_map, Array.length_toList] at hj
    rw [← numAt_eq]; exact h2 j (by omega)
theorem min_rawT (hh : A.handled = none) (hl : s.heap.IsTuple l its.toArray) (hi : IntsAre its ns) (hne : 0 < ns.length)
    (h : ∀ h' tk M t', (∀ b o, s.heap.get? b = some o → h'.get? b = some o) → M ∈ ns → (∀ a, a ∈ ns → M ≤ a) → Q (.int M t') { s with heap := h', toks := tk }) : wpAny (model prog w) A (call (.builtin "min") [.ref l]) Q E s := by
  obtain ⟨xs, e⟩ := hi.allInts.items
  have hn : numsOf (intItems xs).toList = ns := by rw [← e]; exact hi.numsOf
  rw [nums_intItems] at hn
  subst hn
  rw [e] at hl
  have hsz : 0 < xs.size := by simpa using hne
  refine min_intTup hh hl hsz fun v h' tk hv hk => ?_
  obtain ⟨t, rfl⟩ := intItems_at hv
  obtain ⟨h1, h2⟩ := argBest_lt (numAt xs) (xs.size - 1)
  refine h h' tk _ t hk ?_ fun a ha => ?_
  · rw [numAt_eq]; exact PySem.getD_mem (by rw [List.length_map, Array.length_toList]; omega)
  · obtain ⟨j, hj, rfl⟩ := mem_getD ha
    rw [List.length_map, Array.length_toList] at hj
    rw [← numAt_eq]; exact h2 j (by omega)
end
section
variable {X : Cx}
def rSumT (K : PySem.W.Frag) : List V → Hp → VK → Prop := fun vs H Q => ∃ (a : Addr) (ns : List Int), vs = [V.ref a] ∧ SqT K H a (ns.map V.int) ∧ Q (.int ns.sum) H
def rMaxT (K : PySem.W.Frag) : List V → Hp → VK → Prop := fun vs H Q => ∃ (a : Addr) (ns : List Int), vs = [V.ref a] ∧ SqT K H a (ns.map V.int) ∧ 0 < ns.length ∧ ∀ m, m ∈ ns → (∀ y, y ∈ ns → y ≤ m) → Q (.int m) H
def rMinT (K : PySem.W.Frag) : List V → Hp → VK → Prop := fun vs H Q => ∃ (a : Addr) (ns : List Int), vs = [V.ref a] ∧ SqT K H a (ns.map V.int) ∧ 0 < ns.length ∧ ∀ m, m ∈ ns → (∀ y, y ∈ ns → m ≤ y) → Q (.int m) H
theorem cr_sumT (hc : X.calm = true) : CallR X (.builtin "sum") (rSumT X.K) := by
  intro pins s σ H vs us Q I r h
  obtain ⟨a, ns, rfl, hs, q⟩ := h
  obtain ⟨its, rv, hl, _⟩ := I.tuple hs
  rw [Vals.ref1 r]
  exact sum_rawT (I.ok.hd hc) hl rv.ints fun h' tk t' hk => ⟨.int _, H, I.kept hk, ⟨_, rfl⟩, q⟩
theorem cr_maxT (hc : X.calm = true) : CallR X (.builtin "max") (rMaxT X.K) := by
  intro pins s σ H vs us Q I r h
  obtain ⟨a, ns, rfl, hs, hne, q⟩ := h
  obtain ⟨its, rv, hl, _⟩ := I.tuple hs
  rw [Vals.ref1 r]
  exact max_rawT (I.ok.hd hc) hl rv.ints hne fun h' tk m t' hk h1 h2 => ⟨.int _, H, I.kept hk, ⟨_, rfl⟩, q m h1 h2⟩
theorem cr_minT (hc : X.calm = true) : CallR X (.builtin "min") (rMinT X.K) := by
  intro pins s σ H vs us Q I r h
  obtain ⟨a, ns, rfl, hs, hne, q⟩ := h
  obtain ⟨its, rv, hl, _⟩ := I.tuple hs
  rw [Vals.ref1 r]
  exact min_rawT (I.ok.hd hc) hl rv.ints hne fun h' tk m t' hk h1 h2 => ⟨.int _, H, I.kept hk, ⟨_, rfl⟩, q m h1 h2⟩
end
theorem foldl_max (l : List Int) : ∀ x : Int, (∀ m, m ∈ x :: l → (∀ y, y ∈ x :: l → y ≤ m) → m = l.foldl (fun m y => if m < y then y else m) x) := by
  induction l with
  | nil =>
    intro x m h1 _
    simpa using h1
  | cons y l ih =>
    intro x m h1 h2
    rw [List.foldl_cons]
    by_cases hxy : x < y
    · rw [if_pos hxy]
      refine ih y m ?_ fun z hz => h2 z (List.mem_cons_of_mem _ hz)
      rcases List.mem_cons.mp h1 with e | e
      · have := h2 y (by simp)
        omega
      · exact e
    · rw [if_neg hxy]
      refine ih x m ?_ fun z hz => h2 z (by
        rcases List.mem_cons.mp hz with e | e
        · simp [e]
        · simp [e])
      rcases List.mem_cons.mp h1 with e | e
      · simp [e]
      · rcases List.mem_cons.mp e with e | e
        · have := h2 x (by simp)
          have e3 : m = x := by omega
          simp [e3]
        · simp [e]
theorem foldl_min (l : List Int) : ∀ x : Int, (∀ m, m ∈ x :: l → (∀ y, y ∈ x :: l → m ≤ y) → m = l.foldl (fun m y => if y < m then y else m) x) := by
  induction l with
  | nil =>
    intro x m h1 _
    simpa using h1
  | cons y l ih =>
    intro x m h1 h2
    rw [List.foldl_cons]
    by_cases hxy : y < x
    · rw [if_pos hxy]
      refine ih y m ?_ fun z hz => h2 z (List.mem_cons_of_mem _ hz)
      rcases List.mem_cons.mp h1 with e | e
      · have := h2 y (by simp)
        omega
      · exact e
    · rw [if_neg hxy]
      refine ih x m ?_ fun z hz => h2 z (by
        rcases List.mem_cons.mp hz with e | e
        · simp [e]
        · simp [e])
      rcases List.mem_cons.mp h1 with e | e
      · simp [e]
      · rcases List.mem_cons.mp e with e | e
        · have := h2 x (by simp)
          have e3 : m = x := by omega
          simp [e3]
        · simp [e]
theorem maxI_eq {ns : List Int} {m : Int} (h : maxI ns = some m) : 0 < ns.length ∧ ∀ k, k ∈ ns → (∀ y, y ∈ ns → y ≤ k) → k = m := by
  cases ns with
  | nil => cases h
  | cons x l =>
    cases h
    exact ⟨by simp, fun k h1 h2 => foldl_max l x k h1 h2⟩
theorem minI_eq {ns : List Int} {m : Int} (h : minI ns = some m) : 0 < ns.length ∧ ∀ k, k ∈ ns → (∀ y, y ∈ ns → k ≤ y) → k = m := by
  cases ns with
  | nil => cases h
  | cons x l =>
    cases h
    exact ⟨by simp, fun k h1 h2 => foldl_min l x k h1 h2⟩
section
variable {K : PySem.W.Frag} {T : List (Addr × Str)} {st : Hs} {as : As} {H : Hp} {d : D} {v : V}
theorem rd_seq {ds : List D} (s : Sim K T st as H) (r : Rep K as H d v) (e : seqOf st d = some ds) : ∃ a vs, v = .ref a ∧ Reps K as H ds vs ∧ ((Rd H a (.lst vs) ∧ dr st d = .lst ds) ∨ (SqT K H a vs ∧ dr st d = .tup ds)) := by
  unfold seqOf at e
  split at e
  · rename_i xs e1
    cases e
    obtain ⟨a, vs, rfl, q, w⟩ := rd_lst s r e1
    exact ⟨a, vs, rfl, w, .inl ⟨q, e1⟩⟩
  · rename_i xs e1
    cases e
    obtain ⟨a, vs, rfl, q, w⟩ := rd_tup s r e1
    exact ⟨a, vs, rfl, w, .inr ⟨q, e1⟩⟩
  · cases e
end
/-- a builtin's place: its name, what stands there -/
def Bf.py : Bf → Str
  | .abs => "abs" | .all => "all" | .any => "any" | .int => "int" | .len => "len" | .max => "max" | .min => "min" | .sum => "sum" | .tuple => "tuple" | .str => "str" | .max2 => "max" | .min2 => "min"
def Bf.val : Bf → Value
  | .abs => .builtin "abs" | .all => .builtin "all" | .any => .builtin "any" | .int => .type "int" | .len => .builtin "len" | .max => .builtin "max" | .min => .builtin "min" | .sum => .builtin "sum" | .tuple => .type "tuple" | .str => .type "str"
  | .max2 => .builtin "max" | .min2 => .builtin "min"
theorem one_of {ds : List D} {d : D} {vs : List V} {K : PySem.W.Frag} {as : As} {H : Hp} (r : Reps K as H [d] vs) : ∃ v, vs = [v] ∧ Rep K as H d v := by
  cases r with
  | cons a b =>
    cases b
    exact ⟨_, rfl, a⟩
theorem two_of {d e : D} {vs : List V} {K : PySem.W.Frag} {as : As} {H : Hp} (r : Reps K as H [d, e] vs) : ∃ v u, vs = [v, u] ∧ Rep K as H d v ∧ Rep K as H e u := by
  cases r with
  | cons a b =>
    obtain ⟨u, rfl, q⟩ := one_of (ds := []) b
    exact ⟨_, _, rfl, a, q⟩
section
variable {X : Cx} {T : List (Addr × Str)} {W : Str → Hp → Prop}
theorem cr_blt (hc : X.calm = true) (f : Bf) : CallR X f.val (rVs X T W fun ds st => bltV f ds st) := by
  intro pins s σ H xs us Q I r h
  obtain ⟨ds, st, as, S, rr, p⟩ := h
  obtain ⟨z, hz, p⟩ := p.ok1
  cases f with
  | abs =>
    simp only [bltV] at hz
    split at hz
    · cases hz
      obtain ⟨v, rfl, q⟩ := one_of (ds := []) rr
      cases q
      exact call_abs pins s σ H _ us Q I r ⟨_, rfl, p.here S (.int _)⟩
    · cases hz
  | all =>
    simp only [bltV] at hz
    split at hz
    · obtain ⟨v, rfl, q⟩ := one_of (ds := []) rr
      split at hz
      · rename_i d ys e
        obtain ⟨bs, hb, rfl⟩ := Option.map_eq_some_iff.mp hz
        obtain ⟨a, vs, rfl, h1, h2⟩ := rd_lst S q e
        have e2 := Reps.bls hb h2
        subst e2
        exact cr_all hc pins s σ H _ us Q I r ⟨a, bs, rfl, .inl h1, p.here S (.bl _)⟩
      · cases hz
    · cases hz
  | any =>
    simp only [bltV] at hz
    split at hz
    · obtain ⟨v, rfl, q⟩ := one_of (ds := []) rr
      split at hz
      · rename_i d ys e
        obtain ⟨bs, hb, rfl⟩ := Option.map_eq_some_iff.mp hz
        obtain ⟨a, vs, rfl, h1, h2⟩ := rd_lst S q e
        have e2 := Reps.bls hb h2
        subst e2
        exact cr_any hc pins s σ H _ us Q I r ⟨a, bs, rfl, .inl h1, p.here S (.bl _)⟩
      · cases hz
    · cases hz
  | int =>
    simp only [bltV] at hz
    split at hz
    · cases hz
      obtain ⟨v, rfl, q⟩ := one_of (ds := []) rr
      cases q
      exact call_int1 pins s σ H _ us Q I r (.inl ⟨_, rfl, p.here S (.int _)⟩)
    · cases hz
      obtain ⟨v, rfl, q⟩ := one_of (ds := []) rr
      cases q
      exact call_int1 pins s σ H _ us Q I r (.inr ⟨_, rfl, p.here S (.int _)⟩)
    · cases hz
  | len =>
    simp only [bltV] at hz
    split at hz
    · obtain ⟨v, rfl, q⟩ := one_of (ds := []) rr
      split at hz
      · rename_i d ys e
        cases hz
        obtain ⟨a, vs, rfl, h1, h2⟩ := rd_lst S q e
        refine call_len pins s σ H _ us Q I r ⟨_, vs.length, rfl, .inl ⟨vs, .inl h1, rfl⟩, ?_⟩
        rw [← h2.length]
        exact p.here S (.int _)
      · rename_i d ys e
        cases hz
        obtain ⟨a, vs, rfl, h1, h2⟩ := rd_tup S q e
        refine call_len pins s σ H _ us Q I r ⟨_, vs.length, rfl, .inr ⟨vs, h1, rfl⟩, ?_⟩
        rw [← h2.length]
        exact p.here S (.int _)
      · rename_i d ys e
        cases hz
        obtain ⟨a, vs, rfl, h1, h2⟩ := rd_kl S q e
        refine call_len pins s σ H _ us Q I r ⟨_, vs.length, rfl, .inl ⟨vs, h1, rfl⟩, ?_⟩
        rw [← h2.length]
        exact p.here S (.int _)
      · rename_i d x e
        split at hz
        · rename_i hl
          cases hz
          cases rd_str S q e
          have l1 := lenOk_sz hl
          refine call_len pins s σ H _ us Q I r ⟨_, x.cps.toList.length, rfl, ⟨by simpa [Str.length] using l1, by simp [Str.length]⟩, p.here S (.int _)⟩
        · cases hz
      · cases hz
    · cases hz
  | max =>
    simp only [bltV] at hz
    split at hz
    · obtain ⟨v, rfl, q⟩ := one_of (ds := []) rr
      obtain ⟨ys, h1, hz⟩ := Option.bind_eq_some_iff.mp hz
      obtain ⟨ns, h2, hz⟩ := Option.bind_eq_some_iff.mp hz
      obtain ⟨m, h3, rfl⟩ := Option.map_eq_some_iff.mp hz
      obtain ⟨a, vs, rfl, h4, h5⟩ := rd_seq S q h1
      have e2 := Reps.ints h2 h4
      subst e2
      obtain ⟨h6, h7⟩ := maxI_eq h3
      have fin : ∀ k, k ∈ ns → (∀ y, y ∈ ns → y ≤ k) → Q (.int k) H := fun k a b => by
        rw [h7 k a b]
        exact p.here S (.int _)
      rcases h5 with ⟨h5, _⟩ | ⟨h5, _⟩
      · exact cr_max hc pins s σ H _ us Q I r ⟨a, ns, rfl, .inl h5, h6, fin⟩
      · exact cr_maxT hc pins s σ H _ us Q I r ⟨a, ns, rfl, h5, h6, fin⟩
    · cases hz
  | min =>
    simp only [bltV] at hz
    split at hz
    · obtain ⟨v, rfl, q⟩ := one_of (ds := []) rr
      obtain ⟨ys, h1, hz⟩ := Option.bind_eq_some_iff.mp hz
      obtain ⟨ns, h2, hz⟩ := Option.bind_eq_some_iff.mp hz
      obtain ⟨m, h3, rfl⟩ := Option.map_eq_some_iff.mp hz
      obtain ⟨a, vs, rfl, h4, h5⟩ := rd_seq S q h1
      have e2 := Reps.ints h2 h4
      subst e2
      obtain ⟨h6, h7⟩ := minI_eq h3
      have fin : ∀ k, k ∈ ns → (∀ y, y ∈ ns → k ≤ y) → Q (.int k) H := fun k a b => by
        rw [h7 k a b]
        exact p.here S (.int _)
      rcases h5 with ⟨h5, _⟩ | ⟨h5, _⟩
      · exact cr_min hc pins s σ H _ us Q I r ⟨a, ns, rfl, .inl h5, h6, fin⟩
      · exact cr_minT hc pins s σ H _ us Q I r ⟨a, ns, rfl, h5, h6, fin⟩
    · cases hz
  | sum =>
    simp only [bltV] at hz
    split at hz
    · obtain ⟨v, rfl, q⟩ := one_of (ds := []) rr
      obtain ⟨ys, h1, hz⟩ := Option.bind_eq_some_iff.mp hz
      obtain ⟨ns, h2, rfl⟩ := Option.map_eq_some_iff.mp hz
      obtain ⟨a, vs, rfl, h4, h5⟩ := rd_seq S q h1
      have e2 := Reps.ints h2 h4
      subst e2
      rcases h5 with ⟨h5, _⟩ | ⟨h5, _⟩
      · exact cr_sum hc pins s σ H _ us Q I r ⟨a, ns, rfl, .inl h5, p.here S (.int _)⟩
      · exact cr_sumT hc pins s σ H _ us Q I r ⟨a, ns, rfl, h5, p.here S (.int _)⟩
    · cases hz
  | tuple =>
    simp only [bltV] at hz
    split at hz
    · obtain ⟨v, rfl, q⟩ := one_of (ds := []) rr
      obtain ⟨ys, h1, rfl⟩ := Option.map_eq_some_iff.mp hz
      obtain ⟨a, vs, rfl, h4, h5⟩ := rd_seq S q h1
      rcases h5 with ⟨h5, _⟩ | ⟨h5, _⟩
      · exact call_tuple_of pins s σ H _ us Q I r ⟨a, vs, rfl, .inl ⟨.inl h5, fun l n => p.newT S h4 n⟩⟩
      · exact call_tuple_of pins s σ H _ us Q I r ⟨a, vs, rfl, .inr ⟨h5, p.here S (.tup h5 h4)⟩⟩
    · cases hz
  | str =>
    simp only [bltV] at hz
    split at hz
    · split at hz
      · rename_i i hl
        cases hz
        obtain ⟨v, rfl, q⟩ := one_of (ds := []) rr
        cases q
        have := Nat.blt_eq.mp hl
        exact call_str_int pins s σ H _ us Q I r ⟨_, rfl, by omega, p.here S (.str _)⟩
      · cases hz
    · cases hz
  | max2 =>
    simp only [bltV] at hz
    split at hz
    · cases hz
      obtain ⟨v, u, rfl, q1, q2⟩ := two_of rr
      cases q1
      cases q2
      exact call_max2 hc pins s σ H _ us Q I r ⟨_, _, rfl, p.here S (.int _)⟩
    · cases hz
  | min2 =>
    simp only [bltV] at hz
    split at hz
    · cases hz
      obtain ⟨v, u, rfl, q1, q2⟩ := two_of rr
      cases q1
      cases q2
      exact call_min2 hc pins s σ H _ us Q I r ⟨_, _, rfl, p.here S (.int _)⟩
    · cases hz
end
end Rf

/-! Rf: the order of ints and nested tuples of ints; sorting as a function. -/
namespace Rf
open PySem PySem.Spec PyProof.Rows L2
open PySem.W (alike alikeAll dataLt keyToks keyToksAll)

theorem lvl_int {d : D} (h : lvl 0 d = true) : ∃ i, d = .int i := by
  cases d with
  | int i => exact ⟨i, rfl⟩
  | _ => simp [lvl] at h
theorem lvl_tup {n : Nat} {d : D} (h : lvl (n + 1) d = true) : ∃ ds, d = .tup ds ∧ lvls n ds = true := by
  cases d with
  | tup ds => exact ⟨ds, rfl, by simpa [lvl] using h⟩
  | _ => simp [lvl] at h
theorem lvls_cons {n : Nat} {d : D} {ds : List D} : lvls n (d :: ds) = true ↔ lvl n d = true ∧ lvls n ds = true := by simp [lvls]
theorem lvls_all {n : Nat} : ∀ {ds : List D}, lvls n ds = true ↔ ∀ d ∈ ds, lvl n d = true
  | [] => by simp [lvls]
  | d :: ds => by rw [lvls_cons, lvls_all (ds := ds)]; simp
mutual
theorem lvl_sh : ∀ (n : Nat) (d : D), lvl n d = true → shD n d = true
  | 0, d, h => by
    obtain ⟨i, rfl⟩ := lvl_int h
    simp [shD]
  | n + 1, d, h => by
    obtain ⟨ds, rfl, h⟩ := lvl_tup h
    simp only [shD]
    exact lvls_sh n ds h
theorem lvls_sh : ∀ (n : Nat) (ds : List D), lvls n ds = true → shDs n ds = true
  | n, [], _ => by simp [shDs]
  | n, d :: ds, h => by
    rw [lvls_cons] at h
    simp only [shDs, Bool.and_eq_true]
    exact ⟨lvl_sh n d h.1, lvls_sh n ds h.2⟩
end
mutual
theorem eqD_eq : ∀ (n : Nat) (a b : D), lvl n a = true → lvl n b = true → eqD a b = true → a = b
  | 0, a, b, h1, h2, h => by
    obtain ⟨i, rfl⟩ := lvl_int h1
    obtain ⟨j, rfl⟩ := lvl_int h2
    simp [eqD] at h
    rw [h]
  | n + 1, a, b, h1, h2, h => by
    obtain ⟨xs, rfl, h1⟩ := lvl_tup h1
    obtain ⟨ys, rfl, h2⟩ := lvl_tup h2
    simp only [eqD] at h
    rw [eqDs_eq n xs ys h1 h2 h]
theorem eqDs_eq : ∀ (n : Nat) (a b : List D), lvls n a = true → lvls n b = true → eqDs a b = true → a = b
  | n, [], b, _, _, h => by
    cases b with
    | nil => rfl
    | cons _ _ => simp [eqDs] at h
  | n, x :: xs, b, h1, h2, h => by
    cases b with
    | nil => simp [eqDs] at h
    | cons y ys =>
      rw [lvls_cons] at h1 h2
      simp only [eqDs, Bool.and_eq_true] at h
      rw [eqD_eq n x y h1.1 h2.1 h.1, eqDs_eq n xs ys h1.2 h2.2 h.2]
end
mutual
theorem eqD_rfl : ∀ (n : Nat) (a : D), shD n a = true → eqD a a = true
  | _, .non, _ => by simp [eqD]
  | _, .bl _, _ => by simp [eqD]
  | _, .int _, _ => by simp [eqD]
  | _, .str _, _ => by simp [eqD]
  | 0, .tup _, h => by simp [shD] at h
  | n + 1, .tup ds, h => by simp only [eqD]; exact eqDs_rfl n ds (by simpa [shD] using h)
  | 0, .lst _, h => by simp [shD] at h
  | n + 1, .lst ds, h => by simp only [eqD]; exact eqDs_rfl n ds (by simpa [shD] using h)
  | 0, .kl _, h => by simp [shD] at h
  | n + 1, .kl ds, h => by simp only [eqD]; exact eqDs_rfl n ds (by simpa [shD] using h)
  | _, .ref _, h => by simp [shD] at h
  | _, .exc _, h => by simp [shD] at h
theorem eqDs_rfl : ∀ (n : Nat) (a : List D), shDs n a = true → eqDs a a = true
  | _, [], _ => by simp [eqDs]
  | n, d :: ds, h => by
    have h' : shD n d = true ∧ shDs n ds = true := by simpa [shDs] using h
    simp only [eqDs, Bool.and_eq_true]
    exact ⟨eqD_rfl n d h'.1, eqDs_rfl n ds h'.2⟩
end
mutual
theorem lvl_alike : ∀ (n : Nat) (a b : D), lvl n a = true → lvl n b = true → alike (toP a) (toP b) = true
  | 0, a, b, h1, h2 => by
    obtain ⟨i, rfl⟩ := lvl_int h1
    obtain ⟨j, rfl⟩ := lvl_int h2
    simp [toP, alike]
  | n + 1, a, b, h1, h2 => by
    obtain ⟨xs, rfl, h1⟩ := lvl_tup h1
    obtain ⟨ys, rfl, h2⟩ := lvl_tup h2
    simp only [toP, alike]
    exact lvls_alike n xs ys h1 h2
theorem lvls_alike : ∀ (n : Nat) (a b : List D), lvls n a = true → lvls n b = true → alikeAll (toPs a) (toPs b) = true
  | n, [], b, _, _ => by cases b <;> simp [toPs, alikeAll]
  | n, x :: xs, b, h1, h2 => by
    cases b with
    | nil => simp [toPs, alikeAll]
    | cons y ys =>
      rw [lvls_cons] at h1 h2
      simp only [toPs, alikeAll, Bool.and_eq_true]
      exact ⟨lvl_alike n x y h1.1 h2.1, lvls_alike n xs ys h1.2 h2.2⟩
end
/-- what cmpD says, by the library's words -/
def CmpIs (o : Option Ordering) (e l : Bool) : Prop := match o with
  | some .eq => e = true ∧ l = false
  | some .lt => e = false ∧ l = true
  | some .gt => e = false ∧ l = false
  | none => False
mutual
theorem cmp_is : ∀ (n : Nat) (a b : D), lvl n a = true → lvl n b = true → CmpIs (cmpD a b) (eqD a b) (dataLt (toP a) (toP b))
  | 0, a, b, h1, h2 => by
    obtain ⟨i, rfl⟩ := lvl_int h1
    obtain ⟨j, rfl⟩ := lvl_int h2
    simp only [toP, PySem.W.dataLt_int, cmpD, eqD]
    by_cases h : i < j
    · rw [if_pos h]
      exact ⟨by simp; omega, by simpa using h⟩
    · rw [if_neg h]
      by_cases h' : i = j
      · rw [if_pos h']
        exact ⟨by simpa using h', by simpa using h⟩
      · rw [if_neg h']
        exact ⟨by simpa using h', by simpa using h⟩
  | n + 1, a, b, h1, h2 => by
    obtain ⟨xs, rfl, h1⟩ := lvl_tup h1
    obtain ⟨ys, rfl, h2⟩ := lvl_tup h2
    simp only [toP, PySem.W.dataLt_tuple, cmpD, eqD]
    exact cmps_is n xs ys h1 h2
theorem cmps_is : ∀ (n : Nat) (a b : List D), lvls n a = true → lvls n b = true → CmpIs (cmpDs a b) (eqDs a b) (lexLt itemOrd (keyToksAll (toPs a)) (keyToksAll (toPs b)))
  | n, [], b, _, _ => by
    cases b with
    | nil =>
      simp only [cmpDs, eqDs, toPs]
      exact ⟨rfl, lex_irrefl _⟩
    | cons y ys =>
      simp only [cmpDs, eqDs, toPs]
      refine ⟨rfl, ?_⟩
      rw [PySem.W.toks_all_cons]
      simp only [keyToksAll]
      rw [lex_diff (O := itemOrd) (by simp)]
      simp [itemLt]
  | n, x :: xs, b, h1, h2 => by
    cases b with
    | nil =>
      simp only [cmpDs, eqDs, toPs]
      refine ⟨rfl, ?_⟩
      rw [PySem.W.toks_all_cons]
      simp only [keyToksAll]
      rw [lex_diff (O := itemOrd) (by simp)]
      simp [itemLt]
    | cons y ys =>
      rw [lvls_cons] at h1 h2
      have hx := cmp_is n x y h1.1 h2.1
      have hal := lvl_alike n x y h1.1 h2.1
      have heq := eqv_toP n x y (lvl_sh n x h1.1) (lvl_sh n y h2.1)
      simp only [cmpDs, eqDs, toPs]
      cases q : cmpD x y with
      | none =>
        rw [q] at hx
        exact hx.elim
      | some o =>
        rw [q] at hx
        cases o with
        | eq =>
          obtain ⟨e1, e2⟩ := hx
          rw [e1] at heq
          rw [e1, Bool.true_and, PySem.W.dataLt_all_yes hal heq]
          exact cmps_is n xs ys h1.2 h2.2
        | lt =>
          obtain ⟨e1, e2⟩ := hx
          rw [e1] at heq
          rw [e1, Bool.false_and, PySem.W.dataLt_all_no hal heq]
          exact ⟨rfl, e2⟩
        | gt =>
          obtain ⟨e1, e2⟩ := hx
          rw [e1] at heq
          rw [e1, Bool.false_and, PySem.W.dataLt_all_no hal heq]
          exact ⟨rfl, e2⟩
end
theorem ltD_data {n : Nat} {a b : D} (h1 : lvl n a = true) (h2 : lvl n b = true) : ltD a b = dataLt (toP a) (toP b) := by
  have h := cmp_is n a b h1 h2
  unfold ltD
  cases q : cmpD a b with
  | none =>
    rw [q] at h
    exact h.elim
  | some o =>
    rw [q] at h
    cases o with
    | eq => exact h.2.symm
    | lt => exact h.2.symm
    | gt => exact h.2.symm
theorem data_swo {α : Type} (k : α → PyData) : SrtO.Swo fun a b => dataLt (k a) (k b) := by
  refine ⟨fun x y h => ?_, fun x y z h1 h2 => ?_⟩
  · cases q : dataLt (k y) (k x) with
    | false => rfl
    | true =>
      have := lex_trans (O := itemOrd) _ _ _ h q
      rw [lex_irrefl] at this
      cases this
  · cases q : dataLt (k z) (k x) with
    | false => rfl
    | true =>
      cases q2 : dataLt (k x) (k y) with
      | true =>
        have := lex_trans (O := itemOrd) _ _ _ q q2
        rw [show lexLt itemOrd (keyToks (k z)) (keyToks (k y)) = dataLt (k z) (k y) from rfl, h2] at this
        cases this
      | false =>
        have e := lex_total (O := itemOrd) _ _ h1 q2
        have : dataLt (k z) (k x) = dataLt (k z) (k y) := by
          unfold PySem.W.dataLt
          rw [e]
        rw [this, h2] at q
        cases q
theorem data_anti {n : Nat} {a b : D} (h1 : lvl n a = true) (h2 : lvl n b = true) (q1 : dataLt (toP a) (toP b) = false) (q2 : dataLt (toP b) (toP a) = false) : a = b := by
  have h := cmp_is n a b h1 h2
  rw [q1] at h
  cases q : cmpD a b with
  | none =>
    rw [q] at h
    exact h.elim
  | some o =>
    rw [q] at h
    cases o with
    | eq => exact eqD_eq n a b h1 h2 h.1
    | lt => exact absurd h.2 (by decide)
    | gt =>
      -- keyToks are equal then
      have e := lex_total (O := itemOrd) (keyToks (toP a)) (keyToks (toP b)) q1 q2
      have hal := lvl_alike n a b h1 h2
      have heq := eqv_toP n a b (lvl_sh n a h1) (lvl_sh n b h2)
      rw [h.1] at heq
      have t := (PySem.W.toks_eqv _ _ hal).2 heq [Sum.inl 0] [Sum.inl 1]
      rw [e, PySem.W.lex_pre, lex_irrefl, lex_diff (O := itemOrd) (by simp)] at t
      simp [itemLt] at t
/-! ### sortD -/
theorem insF_perm (x : D) : ∀ l : List D, (sortD.insF x l).Perm (x :: l)
  | [] => List.Perm.refl _
  | y :: ys => by
    unfold sortD.insF
    split
    · exact ((insF_perm x ys).cons y).trans (List.Perm.swap x y ys)
    · exact List.Perm.refl _
theorem sortD_perm : ∀ l : List D, (sortD l).Perm l
  | [] => List.Perm.refl _
  | x :: xs => by
    unfold sortD
    exact (insF_perm x _).trans ((sortD_perm xs).cons x)
theorem lvls_perm {n : Nat} {l m : List D} (p : l.Perm m) (h : lvls n m = true) : lvls n l = true := lvls_all.mpr fun d hd => lvls_all.mp h d (p.mem_iff.mp hd)
theorem insF_srtd {n : Nat} (x : D) (hx : lvl n x = true) : ∀ l : List D, lvls n l = true → SrtO.Srtd (fun a b => dataLt (toP a) (toP b)) l → SrtO.Srtd (fun a b => dataLt (toP a) (toP b)) (sortD.insF x l)
  | [], _, _ => List.pairwise_singleton _ _
  | y :: ys, hl, h => by
    rw [lvls_cons] at hl
    obtain ⟨h1, h2⟩ := List.pairwise_cons.mp h
    unfold sortD.insF
    have O := data_swo toP
    split
    · rename_i hlt
      rw [ltD_data hl.1 hx] at hlt
      refine List.pairwise_cons.mpr ⟨fun z hz => ?_, insF_srtd x hx ys hl.2 h2⟩
      rcases List.mem_cons.mp ((insF_perm x ys).mem_iff.mp hz) with e | e
      · rw [e]
        exact O.asym _ _ hlt
      · exact h1 z e
    · rename_i hlt
      have hlt : dataLt (toP y) (toP x) = false := by
        rw [ltD_data hl.1 hx] at hlt
        simpa using hlt
      refine List.pairwise_cons.mpr ⟨fun z hz => ?_, h⟩
      rcases List.mem_cons.mp hz with e | e
      · rw [e]
        exact hlt
      · exact O.tr _ _ _ hlt (h1 z e)
theorem sortD_srtd {n : Nat} : ∀ l : List D, lvls n l = true → SrtO.Srtd (fun a b => dataLt (toP a) (toP b)) (sortD l)
  | [], _ => List.Pairwise.nil
  | x :: xs, h => by
    rw [lvls_cons] at h
    unfold sortD
    exact insF_srtd x h.1 _ (lvls_perm (sortD_perm xs) h.2) (sortD_srtd xs h.2)
/-- one sorted list -/
theorem srt_uniq {α : Type} {lt : α → α → Bool} : ∀ {l m : List α}, l.Perm m → SrtO.Srtd lt l → SrtO.Srtd lt m → (∀ a ∈ l, ∀ b ∈ l, lt a b = false → lt b a = false → a = b) → l = m
  | [], m, p, _, _, _ => (List.nil_perm.mp p).symm
  | a :: l, [], p, _, _, _ => by
    have := p.length_eq
    simp at this
  | a :: l, b :: m, p, h1, h2, anti => by
    obtain ⟨h3, h4⟩ := List.pairwise_cons.mp h1
    obtain ⟨h5, h6⟩ := List.pairwise_cons.mp h2
    have hb : b ∈ a :: l := p.mem_iff.mpr (List.mem_cons_self)
    have ha : a ∈ b :: m := p.mem_iff.mp (List.mem_cons_self)
    have e : a = b := by
      rcases List.mem_cons.mp hb with e | hb'
      · exact e.symm
      · rcases List.mem_cons.mp ha with e | ha'
        · exact e
        · exact anti a List.mem_cons_self b hb (h5 a ha') (h3 b hb')
    subst e
    rw [srt_uniq (p.cons_inv) h4 h6 fun x hx y hy => anti x (List.mem_cons_of_mem _ hx) y (List.mem_cons_of_mem _ hy)]
theorem toP_inj {n : Nat} {a b : D} (h1 : lvl n a = true) (h2 : lvl n b = true) (e : toP a = toP b) : a = b := by
  have q := eqv_toP n a b (lvl_sh n a h1) (lvl_sh n b h2)
  rw [← e, PySem.W.eqv_refl_alike _ (lvl_alike n a a h1 h1)] at q
  exact eqD_eq n a b h1 h2 q.symm
end Rf

/-! Rf: sorted. -/
namespace Rf
open PySem PySem.Spec PyProof.Rows L2
open PySem.W (alike alikeAll dataLt keyToks keyToksAll KatTups Looks)

section
variable {prog : Program} {w : World} {A : Around} {E : Value → Shared → Prop} {s : Shared}
/-- the first items, where there are any -/
theorem firstsO {M : Model} : ∀ (vs : List Value) (fs : List (Option Value)) {Q : List (Option Value) → Shared → Prop}, Paired (fun v f => ∃ a o xs n, v = Value.ref a ∧ s.heap.get? a = some o ∧ o.cls = .type "tuple" ∧ o.data = .seq xs n ∧ xs[0]? = f) vs fs → Q fs s → wpAny M A (vs.mapM firstOfTuple') Q E s
  | _, _, _, .nil, h => by rw [List.mapM_nil]; exact wpAny_pure h
  | _, _, Q, .cons (l₁ := vs) (l₂ := fs) (b := f) ⟨a, o, xs, n, e, ho, hc, hd, hf⟩ t, h => by
    subst e
    rw [List.mapM_cons]
    refine wpAny_bind ?_
    rw [PySem.W.kas_first_eq]
    refine wpAny_bind (PySem.W.Looks.here (show PySem.W.Looks M s.heap (typeOf (.ref a)) o.cls from (PySem.W.Looks.ld ho).andThen .now) ?_)
    rw [hc, if_neg (by first | decide | simp)]
    refine wpAny_bind (listItems_at ho hd (wpAny_pure ?_))
    rw [hf]
    exact wpAny_bind (firstsO vs fs (Q := fun bs s' => wpAny M A (pure (f :: bs)) Q E s') t (wpAny_pure h))
/-- tuples, the first one empty -/
theorem kind_empty {M : Model} {v : Value} {vs : List Value} {fs : List (Option Value)} {Q : SortKind → Shared → Prop} (t : Paired (fun v f => ∃ a o xs n, v = Value.ref a ∧ s.heap.get? a = some o ∧ o.cls = .type "tuple" ∧ o.data = .seq xs n ∧ xs[0]? = f) (v :: vs) (none :: fs)) (h : Q oneType' s) :
    wpAny M A (keyKind' (v :: vs).toArray) Q E s := by
  have hT : ∀ u ∈ v :: vs, PySem.W.Looks M s.heap (typeOf u) (.type "tuple") := by
    intro u hu
    have : ∀ {l : List Value} {m : List (Option Value)}, Paired (fun v f => ∃ a o xs n, v = Value.ref a ∧ s.heap.get? a = some o ∧ o.cls = .type "tuple" ∧ o.data = .seq xs n ∧ xs[0]? = f) l m → u ∈ l → PySem.W.Looks M s.heap (typeOf u) (.type "tuple") := by
      intro l m p
      induction p with
      | nil => intro z; cases z
      | cons r _ ih =>
        intro z
        rcases List.mem_cons.mp z with z | z
        · obtain ⟨a, o, xs, n, e, ho, hc, _⟩ := r
          rw [z, e]
          have this : PySem.W.Looks M s.heap (typeOf (.ref a)) o.cls := (PySem.W.Looks.ld ho).andThen .now
          rw [hc] at this
          exact this
        · exact ih z
    exact this t hu
  rw [PyProof.Rows.kat_kind_eq, List.mapM_toArray, map_eq_pure_bind]
  refine wpAny_bind (wpAny_bind (firstsO (v :: vs) _ t (wpAny_pure ?_)))
  have h1 : (((none :: fs : List (Option Value)).toArray).all fun x => x.isSome) = false := by simp
  rw [if_neg (by rw [h1]; exact Bool.false_ne_true)]
  have h2 : ((none :: fs : List (Option Value)).toArray[0]?.bind id).isSome = false := by simp
  rw [if_neg (by rw [h2]; exact Bool.false_ne_true)]
  rw [oneTypeOnly'_eq, List.mapM_toArray, map_eq_pure_bind]
  refine wpAny_bind (wpAny_bind (wpAny_bind (PySem.W.kas_mapM (r := Value.type "tuple") _ (fun u hu Q' hq => (hT u hu).here hq) (wpAny_pure ?_))))
  have hall2 : ((List.map (fun _ => Value.type "tuple") (v :: vs)).toArray.all fun x => x == Value.type "tuple") = true := by
    simp only [List.all_toArray, List.all_map, List.all_eq_true]
    intro _ _
    rfl
  have h0 : (List.map (fun _ => Value.type "tuple") (v :: vs)).toArray[0]? = some (Value.type "tuple") := by simp
  rw [h0]
  simp only [hall2, if_true]
  exact wpAny_pure (wpAny_pure h)
/-- tuple's own __lt__, as sorting calls it -/
theorem oneLt_tup {xs ys : List PyData} {a b : Value} {as bs : List Addr} {Q : Bool → Shared → Prop} (ra : Reads s.heap a (.tuple xs) as) (rb : Reads s.heap b (.tuple ys) bs) (hal : alikeAll xs ys = true)
    (hu : A.units + min (PyData.tuple xs).depth (PyData.tuple ys).depth < cLine) (hq : Q (dataLt (.tuple xs) (.tuple ys)) s) : wpAny (model prog w) A (oneLt' true a b) Q E s := by
  cases ra with
  | @tuple l o vs n _ as₁ h1 h2 h3 h4 =>
    cases rb with
    | @tuple l' o' vs' n' _ bs₁ k1 k2 k3 k4 =>
      have n1 : vs.size = xs.length := by simpa using SeqAt.ReadsAll.length _ _ _ h4
      have n2 : vs'.size = ys.length := by simpa using SeqAt.ReadsAll.length _ _ _ k4
      rw [PySem.W.dataLt_tuple, ← PySem.W.firstLt_toks xs ys hal, ← n1, ← n2] at hq
      rw [oneLt'_eq]
      simp only [if_true]
      refine wpAny_bind (wpAny_cRoomFor (SeqAt.room_here hu) ?_)
      obtain ⟨cls, dd, data, sl⟩ := o
      obtain ⟨cls2, dd2, data2, sl2⟩ := o'
      simp only at h2 h3 k2 k3
      subst h2 h3 k2 k3
      refine wpAny_bind (wpAny_callSpecialIfBound?_slot (T := "tuple") ⟨_, h1, rfl⟩ F.slot_tuple_lt (call_meets F.slot_tuple_lt ⟨_, h1, rfl⟩ F.entry_tuple_lt (F.args_tuple_lt_2 _ _)
        (SeqAt.tuple_ltAt l l' vs vs' n n' dd dd2 sl sl2 (SeqAt.pairEq xs ys) (fun j => dataLt (xs.getD j .none) (ys.getD j .none))) ⟨h1, k1, fun j j1 j2 => ?_, fun j j1 j2 hj => ?_, ?_⟩))
      · have := PySem.W.eqAt_alikeAll xs ys A.in1 s vs.toList vs'.toList _ _ h4 k4 hal (SeqAt.room_in hu) j (by simpa using j1) (by simpa using j2)
        simpa using this
      · have := PySem.W.rcLt_alikeAll xs ys A.in1 s vs.toList vs'.toList _ _ h4 k4 hal (SeqAt.room_in hu) j (by simpa using j1) (by simpa using j2) hj
        simpa using this
      · exact wpAny_truthy_bool hq
end

/-! ### reads of such data where one list has changed -/
section
variable {h h' : Heap} {a : Addr}
mutual
theorem reads_but (hk : ∀ b o, b ≠ a → h.get? b = some o → h'.get? b = some o) (ha : ∀ o, h.get? a = some o → o.cls ≠ .type "tuple") : ∀ (n : Nat) (d : D) (v : Value) (as : List Addr), lvl n d = true → Reads h v (toP d) as → Reads h' v (toP d) as
  | 0, d, v, as, hl, r => by
    obtain ⟨i, rfl⟩ := lvl_int hl
    simp only [toP] at r ⊢
    cases r
    exact .int _ _
  | n + 1, d, v, as, hl, r => by
    obtain ⟨ds, rfl, hl⟩ := lvl_tup hl
    simp only [toP] at r ⊢
    cases r with
    | tuple h1 h2 h3 h4 => exact .tuple (hk _ _ (fun e => ha _ (e ▸ h1) h2) h1) h2 h3 (readsAll_but hk ha n ds _ _ hl h4)
theorem readsAll_but (hk : ∀ b o, b ≠ a → h.get? b = some o → h'.get? b = some o) (ha : ∀ o, h.get? a = some o → o.cls ≠ .type "tuple") : ∀ (n : Nat) (ds : List D) (vs : List Value) (as : List Addr), lvls n ds = true → ReadsAll h vs (toPs ds) as → ReadsAll h' vs (toPs ds) as
  | n, [], vs, as, _, r => by
    simp only [toPs] at r ⊢
    cases r
    exact .nil
  | n, d :: ds, vs, as, hl, r => by
    rw [lvls_cons] at hl
    simp only [toPs] at r ⊢
    cases r with
    | cons r1 r2 => exact .cons (reads_but hk ha n d _ _ hl.1 r1) (readsAll_but hk ha n ds _ _ hl.2 r2)
end
theorem readsAll_mem : ∀ {vs : List Value} {ds : List PyData} {as : List Addr}, ReadsAll h vs ds as → ∀ v ∈ vs, ∃ d as, d ∈ ds ∧ Reads h v d as
  | _, _, _, .nil, v, hv => by cases hv
  | _, _, _, .cons r rs, v, hv => by
    rcases List.mem_cons.mp hv with e | hv
    · rw [e]
      exact ⟨_, _, List.mem_cons_self, r⟩
    · obtain ⟨d, as, m, q⟩ := readsAll_mem rs v hv
      exact ⟨d, as, List.mem_cons_of_mem _ m, q⟩
theorem readsAll_each : ∀ {vs : List Value} {ds : List PyData} {as : List Addr}, ReadsAll h vs ds as → PySem.W.EachIs (fun v d => ∃ as, Reads h v d as) vs ds
  | _, _, _, .nil => .nil
  | _, _, _, .cons r rs => .cons ⟨_, r⟩ (readsAll_each rs)
end
theorem lvl_depth {n : Nat} {d : D} (h : lvl n d = true) : (toP d).depth ≤ n := (lay_toP n d (lvl_sh n d h)).2
theorem mem_toPs {p : PyData} : ∀ {ds : List D}, p ∈ toPs ds ↔ ∃ d ∈ ds, p = toP d
  | [] => by simp [toPs]
  | d :: ds => by
    simp only [toPs, List.mem_cons, mem_toPs (ds := ds)]
    constructor
    · rintro (e | ⟨x, h1, h2⟩)
      · exact ⟨d, .inl rfl, e⟩
      · exact ⟨x, .inr h1, h2⟩
    · rintro ⟨x, e | h1, h2⟩
      · exact .inl (e ▸ h2)
      · exact .inr ⟨x, h1, h2⟩
section
variable {prog : Program} {w : World} {A : Around} {E : Value → Shared → Prop} {s : Shared}
theorem tupsO : ∀ {vs : List Value} {ds : List D} {n : Nat} {as : List Addr}, lvls (n + 1) ds = true → ReadsAll s.heap vs (toPs ds) as →
    ∃ fs, Paired (fun v f => ∃ a o xs n, v = Value.ref a ∧ s.heap.get? a = some o ∧ o.cls = .type "tuple" ∧ o.data = .seq xs n ∧ xs[0]? = f) vs fs ∧ (∀ ds', ds = .tup [] :: ds' → ∃ fs', fs = none :: fs')
  | _, [], n, _, _, r => by
    simp only [toPs] at r
    cases r
    exact ⟨[], .nil, fun _ e => by cases e⟩
  | _, d :: ds, n, _, hl, r => by
    rw [lvls_cons] at hl
    simp only [toPs] at r
    cases r with
    | cons r1 r2 =>
      obtain ⟨fs, h1, _⟩ := tupsO hl.2 r2
      obtain ⟨xs, rfl, _⟩ := lvl_tup hl.1
      simp only [toP] at r1
      cases r1 with
      | @tuple a o vs' k _ _ k1 k2 k3 k4 =>
        refine ⟨_ :: fs, .cons ⟨a, o, vs', k, rfl, k1, k2, k3, rfl⟩ h1, fun ds' e => ?_⟩
        have e1 : xs = [] := by
          have := (List.cons.inj e).1
          injection this
        subst e1
        simp only [toPs] at k4
        have : vs'.toList = [] := by
          cases q : vs'.toList with
          | nil => rfl
          | cons x y =>
            rw [q] at k4
            cases k4
        refine ⟨fs, ?_⟩
        rw [← Array.getElem?_toList, this]
        rfl
theorem sortable_data {a : Addr} {its : List Value} {ds : List D} {n : Nat} {as : List Addr} (hr : ReadsAll s.heap its (toPs ds) as) (hl : lvls n ds = true) (hs : sortShape ds = true) (h2 : 2 ≤ its.length)
    (ha : ∀ o, s.heap.get? a = some o → o.cls ≠ .type "tuple") (hu : A.units + n < cLine) : SrtO.SortableO prog w A s a its fun v u => dataLt (SeqAt.readOf s.heap v) (SeqAt.readOf s.heap u) := by
  intro h' keep
  have hr' : ReadsAll h' its (toPs ds) as := readsAll_but keep ha n ds its as hl hr
  have cl : PyData.canLayAll0 (toPs ds) = true := (lays_toP n ds (lvls_sh n ds hl)).1
  have ro : ∀ v ∈ its, ∃ d, d ∈ ds ∧ SeqAt.readOf s.heap v = toP d ∧ ∃ as, Reads h' v (toP d) as := fun v hv => by
    obtain ⟨p, as1, m1, r1⟩ := readsAll_mem hr v hv
    obtain ⟨d, hd, rfl⟩ := mem_toPs.mp m1
    have hd' := lvls_all.mp hl d hd
    exact ⟨d, hd, SeqAt.readOf_eq (lay_toP n d (lvl_sh n d hd')).1 r1, as1, reads_but keep ha n d v as1 hd' r1⟩
  have room : ∀ {d e : D}, d ∈ ds → A.units + min (toP d).depth (toP e).depth < cLine := fun {d e} hd => by
    have := lvl_depth (lvls_all.mp hl d hd)
    have := Nat.min_le_left (toP d).depth (toP e).depth
    omega
  have alk : ∀ {d e : D}, d ∈ ds → e ∈ ds → alike (toP d) (toP e) = true := fun {d e} h1 h2 => lvl_alike n d e (lvls_all.mp hl d h1) (lvls_all.mp hl e h2)
  have byData : (PySem.W.Sortable (toPs ds)) → ∃ κ, (∀ (Q : SortKind → Shared → Prop) (E : Value → Shared → Prop), Q κ { s with heap := h' } → wpAny (model prog w) A (keyKind' its.toArray) Q E { s with heap := h' }) ∧
      SrtO.Cmp prog w A { s with heap := h' } κ (fun p => p.1 ∈ its) (SrtO.lt2 fun v u => dataLt (SeqAt.readOf s.heap v) (SeqAt.readOf s.heap u)) := fun hsrt => by
    have hal : PySem.W.AllAlike (toPs ds) := fun p hp q hq => by
      obtain ⟨d, hd, rfl⟩ := mem_toPs.mp hp
      obtain ⟨e, he, rfl⟩ := mem_toPs.mp hq
      exact alk hd he
    have S := PySem.W.SortsAt.data (prog := prog) (w := w) (A := A) (s := { s with heap := h' }) (readsAll_each hr') hal hsrt (fun p hp => by
      obtain ⟨d, hd, rfl⟩ := mem_toPs.mp hp
      have := lvl_depth (lvls_all.mp hl d hd)
      omega)
    obtain ⟨κ, c1, c2⟩ := S.kind
    refine ⟨κ, fun Q E hq => c2 h2 E hq, fun p q hp hq => ?_⟩
    obtain ⟨d, hd, e1, as1, r1⟩ := ro p.1 hp
    obtain ⟨e, he, e2, as2, r2⟩ := ro q.1 hq
    refine c1 _ p.1 q.1 _ _ (PySem.W.dataKind_some hal (mem_toPs.mpr ⟨d, hd, rfl⟩) r1) (PySem.W.dataKind_some hal (mem_toPs.mpr ⟨e, he, rfl⟩) r2) ⟨rfl, ?_⟩
    show _ = dataLt (SeqAt.readOf s.heap p.1) (SeqAt.readOf s.heap q.1)
    rw [e1, e2]
    rfl
  cases n with
  | zero =>
    refine byData (.inr fun p hp => ?_)
    obtain ⟨d, hd, rfl⟩ := mem_toPs.mp hp
    obtain ⟨i, rfl⟩ := lvl_int (lvls_all.mp hl d hd)
    simp only [toP]
    exact ⟨fun z => (by cases z), fun xs z => (by cases z)⟩
  | succ n =>
    by_cases he : ∃ ds', ds = .tup [] :: ds'
    · obtain ⟨ds', e⟩ := he
      obtain ⟨fs, t1, t2⟩ := tupsO (s := { s with heap := h' }) hl hr'
      obtain ⟨fs', rfl⟩ := t2 ds' e
      cases t1 with
      | @cons v _ vs _ r rs =>
        refine ⟨oneType', fun Q E hq => kind_empty (s := { s with heap := h' }) (.cons r rs) hq, fun p q hp hq => ?_⟩
        obtain ⟨d, hd, e1, as1, r1⟩ := ro p.1 hp
        obtain ⟨f, hf, e2, as2, r2⟩ := ro q.1 hq
        have al := alk hd hf
        have rm := room (e := f) hd
        obtain ⟨xs, rfl, _⟩ := lvl_tup (lvls_all.mp hl d hd)
        obtain ⟨ys, rfl, _⟩ := lvl_tup (lvls_all.mp hl f hf)
        simp only [toP] at r1 r2 e1 e2 al rm
        rw [keyLt'_oneType]
        refine oneLt_tup (s := { s with heap := h' }) r1 r2 (by simpa [alike] using al) rm ⟨rfl, ?_⟩
        show _ = dataLt (SeqAt.readOf s.heap p.1) (SeqAt.readOf s.heap q.1)
        rw [e1, e2]
    · refine byData (.inl fun p hp => ?_)
      obtain ⟨d, hd, rfl⟩ := mem_toPs.mp hp
      obtain ⟨xs, rfl, _⟩ := lvl_tup (lvls_all.mp hl d hd)
      cases xs with
      | cons x xs => exact ⟨toP x, toPs xs, by simp only [toP, toPs]⟩
      | nil =>
        exfalso
        cases ds with
        | nil => cases hd
        | cons d0 ds' =>
          cases d0 with
          | tup zs =>
            cases zs with
            | nil => exact he ⟨ds', rfl⟩
            | cons z zs =>
              simp only [sortShape, List.all_eq_true] at hs
              have := hs _ hd
              cases this
          | _ =>
            rw [lvls_cons] at hl
            simp [lvl] at hl
theorem collect_tup {l : Addr} {vs : List Value} {Q : List Value → Shared → Prop} (hl : s.heap.IsTuple l vs.toArray)
    (h : Q vs { s with heap := (s.heap.push (seqObj "list" #[] 0)).update s.heap.objs.size (Obj.mapSeq (· ++ vs.toArray)) }) (hsz : vs.length ≤ sizeLine) :
    wpAny (model prog w) A (collect (.ref l)) Q E s := by
  obtain ⟨o, ho, hc, n, hd⟩ := id hl
  unfold collect
  refine wpAny_bind (wpAny_runValue (codeAny_builtin entry_proto_collect' ?_))
  show wpAny _ _ (do again (.builtin "list.__iadd__" ⟨[← newList [], .ref l], []⟩)) _ _ s
  refine wpAny_bind (wpAny_newList (wpAny_pure ⟨Code.quiet_builtin _ (by decide +kernel), codeAny_builtin entry_list_iadd' ?_⟩))
  show wpAny _ _ (Builtin.List.listExtendWith (.ref s.heap.objs.size) (.ref l) (.ref s.heap.objs.size)) _ _ { s with heap := s.heap.push (seqObj "list" #[] 0) }
  unfold Builtin.List.listExtendWith
  have ho' : (s.heap.push (seqObj "list" #[] 0)).get? l = some o := Heap.get?_push_of_some _ ho
  refine wpAny_bind (wpAny_typeOf (T := "tuple") ⟨o, ho', hc⟩ ?_)
  have ht : (Value.type "tuple" == Value.type "tuple") = true := by rfl
  rw [if_pos (by rw [ht]; simp)]
  refine wpAny_bind (listItems_at ho' hd ?_)
  refine wpAny_bind (listItems_at (xs := #[]) (n := 0) (Heap.get?_push_size _ rfl) rfl ?_)
  rw [if_neg (by simp)]
  refine wpAny_bind (listUpdate_at (xs := #[]) (n := 0) (Heap.get?_push_size _ rfl) rfl ?_ (Nat.zero_le _) (by show (#[] ++ vs.toArray).size ≤ sizeLine + 1; simp only [Array.size_append, List.size_toArray, List.length_nil]; omega))
  refine wpAny_pure ?_
  show wpAny (model prog w) A (do
      let o ← load s.heap.objs.size
      match o.data with
      | .seq xs _ => pure xs.toList
      | _ => unsupported "internal:collect") Q E { s with heap := (s.heap.push (seqObj "list" #[] 0)).update s.heap.objs.size (Obj.mapSeq (· ++ vs.toArray)) }
  refine wpAny_bind (wpAny_load (get?_update_seq (Heap.get?_push_size _ rfl) _) ?_)
  show wpAny _ _ (pure ((#[] : Array Value) ++ vs.toArray).toList) Q E _
  rw [show ((#[] : Array Value) ++ vs.toArray).toList = vs by simp]
  exact wpAny_pure h
theorem sorted_ordT {l : Addr} {vs : List Value} {ltv : Value → Value → Bool} {Q : Value → Shared → Prop} (O : SrtO.Swo ltv) (hl : s.heap.IsList l vs.toArray ∨ s.heap.IsTuple l vs.toArray) (hz : vs.length ≤ sizeLine)
    (hS : 2 ≤ vs.length → ∀ (h₁ : Heap) (a : Addr), h₁.get? a = some (seqObj "list" vs.toArray 0) → (∀ b o, s.heap.get? b = some o → b ≠ a ∧ h₁.get? b = some o) → SrtO.SortableO prog w A.in1.in1 { s with heap := h₁ } a vs ltv)
    (h : ∀ out : List Value, SrtO.Srtd ltv out → SrtO.Stb ltv out vs → Q (.ref (s.heap.objs.size + 1)) { s with heap := sortedAll s.heap vs out.toArray }) :
    wpAny (model prog w) A (call (.builtin "sorted") [.ref l]) Q E s := by
  refine Calls.call_function_entry kind_sorted plain_sorted entry_sorted (args_sorted1 _) ?_
  unfold Builtin.«sorted»
  refine wpAny_bind (m := checkCount "sorted" 1 1 _) (wpAny_pure ?_)
  have col : ∀ {A : Around} {E : Value → Shared → Prop} {Q : List Value → Shared → Prop}, Q vs { s with heap := (s.heap.push (seqObj "list" #[] 0)).update s.heap.objs.size (Obj.mapSeq (· ++ vs.toArray)) } → wpAny (model prog w) A (collect (.ref l)) Q E s := fun {A E Q} q => by
    rcases hl with hl | hl
    · exact collect_list hl q hz
    · exact collect_tup hl q hz
  refine wpAny_bind (col ?_)
  refine wpAny_bind (wpAny_newList ?_ hz)
  have hsz : ((s.heap.push (seqObj "list" #[] 0)).update s.heap.objs.size (Obj.mapSeq (· ++ vs.toArray))).objs.size = s.heap.objs.size + 1 := by
    rw [Heap.size_update, size_push']
  have hoL : (((s.heap.push (seqObj "list" #[] 0)).update s.heap.objs.size (Obj.mapSeq (· ++ vs.toArray))).push (seqObj "list" vs.toArray 0)).get? (s.heap.objs.size + 1) = some (seqObj "list" vs.toArray 0) := by
    rw [← hsz]; exact Heap.get?_push_size _ rfl
  have keep : ∀ b o, s.heap.get? b = some o → b ≠ s.heap.objs.size + 1 ∧ (((s.heap.push (seqObj "list" #[] 0)).update s.heap.objs.size (Obj.mapSeq (· ++ vs.toArray))).push (seqObj "list" vs.toArray 0)).get? b = some o := fun b o q => by
    have hlt : b < s.heap.objs.size := Heap.lt_size q
    refine ⟨Nat.ne_of_lt (Nat.lt_succ_of_lt hlt), Heap.get?_push_of_some _ ?_⟩
    rw [Heap.get?_update_ne _ _ _ _ (Nat.ne_of_lt hlt)]
    exact Heap.get?_push_of_some _ q
  show wpAny _ _ _ _ _ { s with heap := ((s.heap.push (seqObj "list" #[] 0)).update s.heap.objs.size (Obj.mapSeq (· ++ vs.toArray))).push (seqObj "list" vs.toArray 0) }
  rw [hsz]
  refine wpAny_bind (wpAny_holding (wpAny_call_entry slot_list_sort ⟨_, hoL, rfl⟩ entry_list_sort (SrtO.list_sort_ord O hoL hz (fun h2 => hS h2 _ _ hoL keep) fun out hs hb => ⟨_, rfl, ?_⟩) (args_list_sort _)))
  exact wpAny_pure ⟨_, rfl, h out hs hb⟩
end
end Rf

namespace Rf
open PySem PySem.Spec PyProof.Rows L2
open PySem.W (dataLt)
def bkA (u : Value) : V := (absV u).getD .non
section
variable {K : PySem.W.Frag} {as : As} {H : Hp}
/-- each value of some, with its data -/
theorem reps_vals : ∀ {ds : List D} {vs : List V} {us : List Value}, Reps K as H ds vs → Vals vs us → ∀ u ∈ us, ∃ d v, d ∈ ds ∧ Rep K as H d v ∧ RelV v u
  | _, _, _, .nil, .nil, u, hu => by cases hu
  | _, _, _, .cons a b, .cons r rs, u, hu => by
    rcases List.mem_cons.mp hu with e | hu
    · rw [e]
      exact ⟨_, _, List.mem_cons_self, a, r⟩
    · obtain ⟨d, v, m, q1, q2⟩ := reps_vals b rs u hu
      exact ⟨d, v, List.mem_cons_of_mem _ m, q1, q2⟩
theorem reps_back {rd : Value → PyData} {n : Nat} : ∀ {es : List D} {out : List Value}, lvls n es = true → out.map rd = toPs es → (∀ u ∈ out, ∃ d v, lvl n d = true ∧ Rep K as H d v ∧ RelV v u ∧ rd u = toP d) → Reps K as H es (out.map bkA) ∧ Vals (out.map bkA) out
  | [], [], _, _, _ => ⟨.nil, .nil⟩
  | [], _ :: _, _, e, _ => by simp [toPs] at e
  | _ :: _, [], _, e, _ => by simp [toPs] at e
  | d :: es, u :: out, hl, e, h => by
    rw [lvls_cons] at hl
    simp only [List.map_cons, toPs] at e
    obtain ⟨e1, e2⟩ := List.cons.inj e
    obtain ⟨r1, r2⟩ := reps_back hl.2 e2 fun u hu => h u (List.mem_cons_of_mem _ hu)
    obtain ⟨d', v, h1, h2, h3, h4⟩ := h u List.mem_cons_self
    have ed : d' = d := toP_inj h1 hl.1 (h4.symm.trans e1)
    subst ed
    have eb : bkA u = v := by
      unfold bkA
      rw [h3.abs]
      rfl
    rw [List.map_cons, eb]
    exact ⟨.cons h2 r1, .cons h3 r2⟩
end
section
variable {X : Cx} {T : List (Addr × Str)} {W : Str → Hp → Prop}
theorem sorted_out {its out : List Value} {ds : List D} {n : Nat} {h : Heap} {as : List Addr} (hl : lvls n ds = true) (hr : ReadsAll h its (toPs ds) as)
    (h1 : SrtO.Srtd (fun v u => dataLt (SeqAt.readOf h v) (SeqAt.readOf h u)) out) (h2 : out.Perm its) : out.map (SeqAt.readOf h) = toPs (sortD ds) := by
  have cl : PyData.canLayAll0 (toPs ds) = true := (lays_toP n ds (lvls_sh n ds hl)).1
  have em := SeqAt.readsAll_map (toPs ds) its as cl hr
  have p1 : (out.map (SeqAt.readOf h)).Perm (toPs (sortD ds)) := by
    refine (h2.map _).trans ?_
    rw [em, toPs_map, toPs_map]
    exact ((sortD_perm ds).map toP).symm
  refine srt_uniq (lt := fun p q => dataLt p q) p1 (List.pairwise_map.mpr h1) ?_ ?_
  · rw [toPs_map]
    exact List.pairwise_map.mpr (sortD_srtd ds hl)
  · intro p hp q hq e1 e2
    obtain ⟨a, ha, rfl⟩ := mem_toPs.mp (p1.mem_iff.mp hp)
    obtain ⟨b, hb, rfl⟩ := mem_toPs.mp (p1.mem_iff.mp hq)
    have hs := lvls_perm (sortD_perm ds) hl
    rw [data_anti (lvls_all.mp hs a ha) (lvls_all.mp hs b hb) e1 e2]
theorem reads_reps {pins : List (Addr × Obj)} {s : Shared} {σ : L2.St} {H : Hp} {as : As} (I : Inv X pins σ H s) {n : Nat} {ds : List D} {vs : List V} {us : List Value} (hl : lvls n ds = true) (r : Reps X.K as H ds vs) (rv : Vals vs us) : ∃ bs, ReadsAll s.heap us (toPs ds) bs :=
  Dp.readsAll I _ _ _ (dps_of n (lvls_sh n ds hl) r) rv
theorem sortable_lvl {ds : List D} (h : sortable ds = true) : ∃ n, n ≤ 2 ∧ lvls n ds = true := by
  unfold sortable at h
  rcases (Bool.or_eq_true _ _).mp h with h | h
  · rcases (Bool.or_eq_true _ _).mp h with h | h
    · exact ⟨0, by omega, h⟩
    · exact ⟨1, by omega, h⟩
  · exact ⟨2, by omega, h⟩
theorem cr_sortedV (hu : X.A.units + 65 < cLine) : CallR X (.builtin "sorted") (rL1 X T W fun d st => sortedV st d) := by
  intro pins s σ H xs us Q I r h
  obtain ⟨d, st, as, S, rr, p⟩ := h
  obtain ⟨z, hz, p⟩ := p.ok1
  obtain ⟨v, rfl, q⟩ := one_of (ds := []) rr
  dsimp only [sortedV] at hz
  split at hz
  · rename_i ds e
    split at hz
    · rename_i hc
      cases hz
      obtain ⟨hc, hsh⟩ := bnd hc
      obtain ⟨hlen, hso⟩ := bnd hc
      obtain ⟨n, hn, hl⟩ := sortable_lvl hso
      obtain ⟨a, vs, rfl, h4, h5⟩ := rd_seq S q e
      rw [Vals.ref1 r]
      have src : ∃ its : List Value, Vals vs its ∧ (s.heap.IsList a its.toArray ∨ s.heap.IsTuple a its.toArray) := by
        rcases h5 with ⟨h5, _⟩ | ⟨h5, _⟩
        · obtain ⟨its, rv, hl, _⟩ := I.list (.inl h5)
          exact ⟨its, rv, .inl hl.isList⟩
        · obtain ⟨its, rv, hl, _⟩ := I.tuple h5
          exact ⟨its, rv, .inr hl⟩
      obtain ⟨its, rv, hsrc⟩ := src
      obtain ⟨bs, hrd⟩ := reads_reps I hl h4 rv
      have hz : its.length ≤ sizeLine := by rw [← rv.length, ← h4.length]; exact lenOk_sz hlen
      refine sorted_ordT (data_swo (SeqAt.readOf s.heap)) hsrc hz (fun h2 h₁ a' ha' kk => ?_) fun out hs hb => ?_
      · have e1 : ∀ v ∈ its, SeqAt.readOf h₁ v = SeqAt.readOf s.heap v := fun v hv => by
          obtain ⟨p', as1, m1, r1⟩ := readsAll_mem hrd v hv
          obtain ⟨d', hd', rfl⟩ := mem_toPs.mp m1
          have c0 := (lay_toP n d' (lvl_sh n d' (lvls_all.mp hl d' hd'))).1
          rw [SeqAt.readOf_eq c0 r1, SeqAt.readOf_eq c0 (Reads.keeps (fun b o e => (kk b o e).2) r1)]
        have S1 := sortable_data (prog := X.prog) (w := X.w) (A := X.A.in1.in1) (s := { s with heap := h₁ }) (a := a') (ReadsAll.keeps (fun b o e => (kk b o e).2) hrd) hl hsh h2 (fun o e => by
          have e' : some o = some (seqObj "list" its.toArray 0) := e.symm.trans ha'
          cases e'
          intro c
          exact absurd (Value.type.inj c) (by decide)) (by
            show X.A.units + 1 + 1 + n < cLine
            omega)
        intro h' keep
        obtain ⟨κ, k1, k2⟩ := S1 h' keep
        refine ⟨κ, k1, fun p' q' hp hq => ?_⟩
        have := k2 p' q' hp hq
        refine wpAny_mono this (fun r s' hr => ⟨hr.1, ?_⟩) fun _ _ z => z
        rw [hr.2]
        show dataLt (SeqAt.readOf h₁ p'.1) (SeqAt.readOf h₁ q'.1) = dataLt (SeqAt.readOf s.heap p'.1) (SeqAt.readOf s.heap q'.1)
        rw [e1 _ hp, e1 _ hq]
      · have eo := sorted_out hl hrd hs hb.perm
        obtain ⟨w1, w2⟩ := reps_back (K := X.K) (as := as) (H := H) (rd := SeqAt.readOf s.heap) (n := n) (lvls_perm (sortD_perm ds) hl) eo fun u hu' => by
          obtain ⟨d', v', m, q1, q2⟩ := reps_vals h4 rv u (hb.perm.mem_iff.mp hu')
          have hd' := lvls_all.mp hl d' m
          obtain ⟨as1, r1⟩ := Dp.reads I _ _ _ (dp_of n (lvl_sh n d' hd') q1) q2
          exact ⟨d', v', hd', q1, q2, SeqAt.readOf_eq (lay_toP n d' (lvl_sh n d' hd')).1 r1⟩
        obtain ⟨ep, he'⟩ := PyProof.Rows.sortedAll_at s.heap its out.toArray
        have hlen' : (out.map bkA).length ≤ sizeLine := by
          rw [List.length_map, hb.perm.length_eq]
          exact hz
        exact ⟨.ref _, upd H (s.heap.objs.size + 1) (.lst (out.map bkA)), I.laid (t' := s.toks) (fun _ _ => PyProof.Rows.sortedAll_old) (Nat.le_succ _) ⟨hlen', out, ep, w2, he'⟩, rfl, p.new S w1 (I.hok.fresh (Nat.le_succ _))⟩
    · cases hz
  · cases hz
end
end Rf

/-! Rf: expressions. -/
namespace Rf
open PySem PySem.Spec PyProof.Rows L2

/-! ### forms of the text -/
def nStar : Expr → Bool
  | .Starred _ _ => false
  | _ => true
def plainTest : Expr → Bool
  | .UnaryOp .Not _ _ => false
  | .BoolOp _ _ _ => false
  | .IfExp _ _ _ _ => false
  | .Compare _ _ _ _ => false
  | _ => true
def nComp : Expr → Bool
  | .ListComp _ _ _ _ => false
  | .SetComp _ _ _ _ => false
  | .DictComp _ _ _ _ _ => false
  | _ => true
def okBase : Expr → Bool
  | .Call (.Name _ _) [] [] _ => false
  | _ => true
theorem star_of {e : Expr} (h : nStar e = true) (es : List Expr) (env : Env) : starEach (e :: es) env = (false, eval e env) :: starEach es env := by
  cases e <;> first | rfl | exact absurd h (by simp [nStar])
theorem asgn_of {e : Expr} (h : nStar e = true) (es : List Expr) (env : Env) : assignEach (e :: es) env = (false, assign e env) :: assignEach es env := by
  cases e <;> first | rfl | exact absurd h (by simp [nStar])
theorem stars_any {pos : Pos} {env : Env} : ∀ {es : List Expr}, es.all nStar = true → (backTo pos (starEach es env)).any (·.1) = false
  | [], _ => rfl
  | e :: es, h => by
    simp only [List.all_cons, Bool.and_eq_true] at h
    rw [star_of h.1]
    show (false || (backTo pos (starEach es env)).any (·.1)) = false
    rw [stars_any h.2]
    rfl
theorem stars_all {pos : Pos} {env : Env} : ∀ {es : List Expr}, es.all nStar = true → (backTo pos (starEach es env)).all (fun x => !x.1) = true
  | [], _ => rfl
  | e :: es, h => by
    simp only [List.all_cons, Bool.and_eq_true] at h
    rw [star_of h.1]
    show (true && (backTo pos (starEach es env)).all (fun x => !x.1)) = true
    rw [stars_all h.2]
    rfl
theorem test_of {e : Expr} (h : plainTest e = true) (env : Env) (whole : Sem Value) : isTrue e env whole = (do let v ← whole; standAt e.pos; holding [v] (truthy v)) := by
  cases e with
  | UnaryOp op x p => cases op <;> first | rfl | exact absurd h (by simp [plainTest])
  | BoolOp => exact absurd h (by simp [plainTest])
  | IfExp => exact absurd h (by simp [plainTest])
  | Compare => exact absurd h (by simp [plainTest])
  | _ => rfl
theorem swap_of {e : Expr} (h : nComp e = true) (t : Option Expr) (l : Nat) (env : Env) : swapsWith e t l env = pure false := by
  cases e <;> first | rfl | exact absurd h (by simp [nComp])
theorem base_of {e : Expr} (h : okBase e = true) (f : Str) (env : Env) (w : Sem Value) : attributeBase e f env w = w := by
  cases e with
  | Call g as ks p =>
    cases g with
    | Name x q =>
      cases as with
      | nil =>
        cases ks with
        | nil => exact absurd h (by simp [okBase])
        | cons _ _ => rfl
      | cons _ _ => rfl
    | _ => rfl
  | _ => rfl

theorem PE.weak {X : Cx} {e : Expr} {t t' : TE} (h : PE X e t) (k : ∀ σ H Q, t' σ H Q → t σ H Q) : PE X e t' := ⟨fun pins s σ H Q I q => h.run pins s σ H Q I (k σ H Q q)⟩
theorem PT.weak {X : Cx} {e : Expr} {t t' : TT} (h : PT X e t) (k : ∀ σ H Q, t' σ H Q → t σ H Q) : PT X e t' := ⟨fun pins s σ H Q I q => h.run pins s σ H Q I (k σ H Q q)⟩
theorem PW.weak {X : Cx} {e : Expr} {t t' : TT} (h : PW X e t) (k : ∀ σ H Q, t' σ H Q → t σ H Q) : PW X e t' := ⟨fun wh pins s σ H Q I q => h.run wh pins s σ H Q I (k σ H Q q)⟩
theorem PA.weak {X : Cx} {e : List Expr} {t t' : TA} (h : PA X e t) (k : ∀ σ H Q, t' σ H Q → t σ H Q) : PA X e t' := ⟨fun pos pins s σ H Q I q => h.run pos pins s σ H Q I (k σ H Q q)⟩
theorem PO.weak {X : Cx} {e : Option Expr} {t t' : TO} (h : PO X e t) (k : ∀ σ H Q, t' σ H Q → t σ H Q) : PO X e t' := ⟨fun pins s σ H Q I q => h.run pins s σ H Q I (k σ H Q q)⟩

/-! ### readings by the evaluator -/
def REq {α : Type} : As → Hp → α → α → Prop := fun _ _ a b => a = b
section
variable (X : Cx) (T : List (Addr × Str)) (W : Str → Hp → Prop) (C : Calls) (F : Nat)
abbrev tE (i : E) : TE := tOf X.K T W (Rep X.K) (evE C F i)
abbrev tEs (i : Es) : TA := tOf X.K T W (Reps X.K) (evEs C F i)
abbrev tT (i : E) : TT := tOf X.K T W REq (evC C F (.some i))
abbrev tOe (i : Oe) : TO := tOf X.K T W REq (evO C F i)
abbrev tL (l : L) : TE := tOfL X.K T W (evL C F l)
/-- an expression of the text does what the evaluator says -/
structure SE (e : Expr) (i : E) : Prop where
  pe : PE X e (tE X T W C F i)
  pt : PT X e (tT X T W C F i)
  st : nStar e = true
structure SL (e : Expr) (l : L) : Prop where
  pe : PE X e (tL X T W C F l)
  st : nStar e = true
  pl : plainTest e = true
end
section
variable {X : Cx} {T : List (Addr × Str)} {W : Str → Hp → Prop} {C : Calls} {F : Nat} {e a b c : Expr} {i ia ib ic : E} {pos : Pos}
/-- a value's test -/
theorem pt_of (h : PE X e (tE X T W C F i)) (hp : plainTest e = true) : PT X e (tT X T W C F i) := by
  refine PT.weak (pt_val h fun whole => test_of hp X.env whole) fun σ H Q ⟨ρ, st, as, s, r, p⟩ => ⟨ρ, st, as, s, r, ?_⟩
  refine Post.bind (R := Rep X.K) (show Post X.K T W REq as H Q ((evE C F i ρ st).bind _) from p) fun x st1 as1 H1 v e1 s1 r1 p1 => ?_
  cases x with
  | bl b =>
    cases r1
    exact ⟨b, rfl, p1.here s1 rfl⟩
  | _ => exact p1.elim
theorem SE.of (h : PE X e (tE X T W C F i)) (hp : plainTest e = true) (hs : nStar e = true) : SE X T W C F e i := ⟨h, pt_of h hp, hs⟩
/-- binary rules over two evaluated parts -/
theorem bin_of {r : R2} {f : D → D → Hs → Res D} (σ : L2.St) (H : Hp) (Q : VK)
    (hr : ∀ x y H Q, (∃ d e st as, Sim X.K T st as H ∧ Rep X.K as H d x ∧ Rep X.K as H e y ∧ Post X.K T W (Rep X.K) as H Q (f d e st)) → r x y H Q)
    (h : tOf X.K T W (Rep X.K) (fun ρ st => (evE C F ia ρ st).bind fun x st => (evE C F ib ρ st).bind fun y st => f x y st) σ H Q) : tOp r (tE X T W C F ia) (tE X T W C F ib) σ H Q := by
  obtain ⟨ρ, st, as, s, q, p⟩ := h
  refine ⟨ρ, st, as, s, q, Post.bind p fun x st1 as1 H1 v e1 s1 r1 p1 => ?_⟩
  refine ⟨ρ, st1, as1, s1, q.ext e1 s.ok, Post.bind p1 fun y st2 as2 H2 u e2 s2 r2 p2 => ?_⟩
  exact hr v u H2 Q ⟨x, y, st2, as2, s2, r1.ext e2 s1.ok, r2, p2⟩
theorem binL_of {r : R2} {f : D → D → Hs → Res (List D)} (σ : L2.St) (H : Hp) (Q : VK)
    (hr : ∀ x y H Q, (∃ d e st as, Sim X.K T st as H ∧ Rep X.K as H d x ∧ Rep X.K as H e y ∧ PostL X.K T W as H Q (f d e st)) → r x y H Q)
    (h : tOfL X.K T W (fun ρ st => (evE C F ia ρ st).bind fun x st => (evE C F ib ρ st).bind fun y st => f x y st) σ H Q) : tOp r (tE X T W C F ia) (tE X T W C F ib) σ H Q := by
  obtain ⟨ρ, st, as, s, q, p⟩ := h
  refine ⟨ρ, st, as, s, q, Post.bindL p fun x st1 as1 H1 v e1 s1 r1 p1 => ?_⟩
  refine ⟨ρ, st1, as1, s1, q.ext e1 s.ok, Post.bindL p1 fun y st2 as2 H2 u e2 s2 r2 p2 => ?_⟩
  exact hr v u H2 Q ⟨x, y, st2, as2, s2, r1.ext e2 s1.ok, r2, p2⟩

/-! ### names and constants -/
theorem s_k_int {n : Int} {j : Nat} : SE X T W C F (.Constant (.int n) j pos) (.k (.int n)) := .of (PE.weak pe_int fun σ H Q ⟨ρ, st, as, s, r, p⟩ => p.here s (.int n)) rfl rfl
theorem s_k_bl {n : Bool} {j : Nat} : SE X T W C F (.Constant (.bool n) j pos) (.k (.bl n)) := .of (PE.weak pe_bl fun σ H Q ⟨ρ, st, as, s, r, p⟩ => p.here s (.bl n)) rfl rfl
theorem s_k_non {j : Nat} : SE X T W C F (.Constant .none j pos) (.k .non) := .of (PE.weak pe_non fun σ H Q ⟨ρ, st, as, s, r, p⟩ => p.here s .non) rfl rfl
theorem s_k_str {n : Str} {j : Nat} : SE X T W C F (.Constant (.str n) j pos) (.k (.str n)) := .of (PE.weak pe_str fun σ H Q ⟨ρ, st, as, s, r, p⟩ => p.here s (.str n)) rfl rfl
theorem s_v {n : Nat} {x : Str} (hN : X.N[n]? = some x) (hv : Vis X.env.scope x) (h1 : (x == ("__debug__" : Str)) = false) (h2 : (x == ("__classdict__" : Str)) = false) : SE X T W C F (.Name x pos) (.v n) := by
  refine .of (PE.weak (pe_var hN hv h1 h2) fun σ H Q ⟨ρ, st, as, s, r, p⟩ => ?_) rfl rfl
  simp only [evE] at p
  split at p
  · rename_i d hd
    obtain ⟨v, h3, h4⟩ := r.2 n d hd
    exact ⟨v, h3, p.here s h4⟩
  · exact p.elim
theorem s_gi {x : Str} {n : Int} {t : Tok} (hg : Gl X x) (hm : X.mg x = some (.int n t)) (h1 : (x == ("__debug__" : Str)) = false) : SE X T W C F (.Name x pos) (.gi x n) :=
  .of (PE.weak (pe_glob hg hm (v := .int n) ⟨t, rfl⟩ h1) fun σ H Q ⟨ρ, st, as, s, r, p⟩ => p.here s (.int n)) rfl rfl
theorem reps_strs {K : PySem.W.Frag} {as : As} {H : Hp} : ∀ ts : List Str, Reps K as H (ts.map .str) (ts.map V.str)
  | [] => .nil
  | t :: ts => .cons (.str t) (reps_strs ts)
theorem s_gt {x : Str} {ts : List Str} {g : Addr} (hg : Gl X x) (hm : X.mg x = some (.ref g)) (hq : ∀ H, SqT X.K H g (ts.map V.str)) (h1 : (x == ("__debug__" : Str)) = false) : SE X T W C F (.Name x pos) (.gt x ts) :=
  .of (PE.weak (pe_glob hg hm (v := .ref g) rfl h1) fun σ H Q ⟨ρ, st, as, s, r, p⟩ => p.here s (.tup (hq H) (reps_strs ts))) rfl rfl

/-! ### parts in a row -/
theorem s_nil : PA X [] (tEs X T W C F .nil) := PA.weak pa_nil fun σ H Q ⟨ρ, st, as, s, r, p⟩ => p.here s .nil
theorem s_cons {es : List Expr} {is : Es} (h : SE X T W C F e i) (hs : PA X es (tEs X T W C F is)) : PA X (e :: es) (tEs X T W C F (.cons i is)) := by
  refine PA.weak (pa_cons h.pe hs (star_of h.st es X.env)) fun σ H Q ⟨ρ, st, as, s, r, p⟩ => ?_
  refine ⟨ρ, st, as, s, r, Post.bind (R := Rep X.K) (show Post X.K T W (Reps X.K) as H Q ((evE C F i ρ st).bind _) from p) fun x st1 as1 H1 v e1 s1 r1 p1 => ?_⟩
  refine ⟨ρ, st1, as1, s1, r.ext e1 s.ok, Post.bind (R := Reps X.K) p1 fun ys st2 as2 H2 vs e2 s2 r2 p2 => ?_⟩
  exact p2.here s2 (.cons (r1.ext e2 s1.ok) r2)
theorem s_tup {es : List Expr} {is : Es} {k : Nat} (h : PA X es (tEs X T W C F is)) (hl : es.length ≤ 10000) (hlen : ∀ ρ st ds st', evEs C F is ρ st = .ok ds st' → ds.length = es.length) : SE X T W C F (.Tuple es k pos) (.tup is) := by
  refine .of (PE.weak (pe_tup h) fun σ H Q ⟨ρ, st, as, s, r, p⟩ => ?_) rfl rfl
  have p' : Post X.K T W (Rep X.K) as H Q ((evEs C F is ρ st).bind fun ds st => .ok (.tup ds) st) := p
  refine ⟨ρ, st, as, s, r, ?_⟩
  cases q : evEs C F is ρ st with
  | ok ds st1 =>
    rw [q] at p'
    intro as' H' vs e1 s1 r1
    refine ⟨?_, fun a n => Post.newT (Post.shift e1 p') s1 r1 n⟩
    rw [← r1.length, hlen _ _ _ _ q, sizeLine_eq]
    omega
  | exc c st1 =>
    rw [q] at p'
    exact p'
  | stuck =>
    rw [q] at p'
    exact p'

/-! ### new lists -/
theorem SL.ofL {l : L} (h : SL X T W C F e l) : SE X T W C F e (.ofL l) := by
  refine .of (PE.weak h.pe fun σ H Q ⟨ρ, st, as, s, r, p⟩ => ⟨ρ, st, as, s, r, ?_⟩) h.pl h.st
  have p' : Post X.K T W (Rep X.K) as H Q ((evL C F l ρ st).bind fun ds st => .ok (.lst ds) st) := p
  refine PostL.bind p' fun ds st1 as1 H1 a vs e1 s1 r1 n p1 => Post.newL p1 s1 r1 n
theorem SL.alloc {l : L} (h : SL X T W C F e l) : SE X T W C F e (.alloc l) := by
  refine .of (PE.weak h.pe fun σ H Q ⟨ρ, st, as, s, r, p⟩ => ⟨ρ, st, as, s, r, ?_⟩) h.pl h.st
  have p' : Post X.K T W (Rep X.K) as H Q ((evL C F l ρ st).bind fun ds st => .ok (.ref st.length) (st ++ [.lst ds])) := p
  refine PostL.bind p' fun ds st1 as1 H1 a vs e1 s1 r1 n p1 => ?_
  refine p1 (as1.add a) _ _ (Ext.freshA n) (s1.alloc n ⟨vs, upd_same, r1.ext (Ext.freshA n) s1.ok⟩) (.ref ?_)
  rw [← s1.len]
  unfold As.add
  dsimp only
  rw [List.getElem?_append_right (Nat.le_refl _)]
  simp
theorem s_disp {es : List Expr} {is : Es} (h : PA X es (tEs X T W C F is)) : SL X T W C F (.List es pos) (.disp is) := by
  refine ⟨PE.weak (pe_lst h) fun σ H Q ⟨ρ, st, as, s, r, p⟩ => ⟨ρ, st, as, s, r, ?_⟩, rfl, rfl⟩
  have p' : PostL X.K T W as H Q ((evEs C F is ρ st).bind fun ds st => if lenOk ds = true then .ok ds st else .stuck) := p
  refine Post.bindL p' fun ds st1 as1 H1 vs e1 s1 r1 p1 => ?_
  split at p1
  · rename_i hl
    refine ⟨?_, fun a n => p1.new s1 r1 n⟩
    rw [← r1.length]
    exact lenOk_sz hl
  · exact p1.elim
theorem s_cat (ha : SE X T W C F a ia) (hb : SE X T W C F b ib) : SL X T W C F (.BinOp a .Add b pos) (.cat ia ib) := by
  refine ⟨PE.weak (pe_op op_catR ha.pe hb.pe) fun σ H Q h => binL_of σ H Q (fun x y H Q ⟨d, e, st, as, s, r1, r2, p⟩ => ?_) h, rfl, rfl⟩
  obtain ⟨zs, hz, p⟩ := p.ok1
  unfold catV at hz
  split at hz
  · rename_i xs ys e1 e2
    split at hz
    · rename_i hl
      cases hz
      obtain ⟨a, vs, rfl, q1, w1⟩ := rd_lst s r1 e1
      obtain ⟨b, us, rfl, q2, w2⟩ := rd_lst s r2 e2
      have l1 := lenOk_le (bnd hl).1
      have l2 := lenOk_le (bnd hl).2
      refine ⟨a, b, vs, us, rfl, rfl, q1, q2, ?_, fun c n => p.new s (w1.append w2) n⟩
      rw [sizeLine_eq, ← w1.length, ← w2.length]
      omega
    · cases hz
  · cases hz
theorem s_rep (ha : SE X T W C F a ia) (hb : SE X T W C F b ib) : SL X T W C F (.BinOp a .Mult b pos) (.rep ia ib) := by
  refine ⟨PE.weak (pe_op op_repR ha.pe hb.pe) fun σ H Q h => binL_of σ H Q (fun x y H Q ⟨d, e, st, as, s, r1, r2, p⟩ => ?_) h, rfl, rfl⟩
  obtain ⟨zs, hz, p⟩ := p.ok1
  unfold repV at hz
  split at hz
  · rename_i xs k e1
    split at hz
    · rename_i hl
      cases hz
      obtain ⟨hl, h3⟩ := bnd hl
      obtain ⟨h1, h2⟩ := bnd hl
      have h2 := of_decide_eq_true h2
      have h3 := of_decide_eq_true h3
      have l1 := lenOk_le h1
      obtain ⟨a, vs, rfl, q1, w1⟩ := rd_lst s r1 e1
      cases r2
      refine ⟨a, k, vs, rfl, rfl, q1, by omega, by omega, ?_, fun c n => p.new s (w1.rept _) n⟩
      rw [sizeLine_eq, ← w1.length]
      have a1 : xs.length * k.toNat ≤ 100000 * 100 := Nat.mul_le_mul l1 (by omega)
      omega
    · cases hz
  · cases hz
/-- a built-in of one argument that makes a list -/
theorem call1_of {f : D → Hs → Option (List D)} (σ : L2.St) (H : Hp) (Q : VK)
    (h : tOfL X.K T W (fun ρ st => (evE C F ia ρ st).bind fun x st => ok1 st (f x st)) σ H Q) : tCB (rL1 X T W f) (tEs X T W C F (.cons ia .nil)) σ H Q := by
  obtain ⟨ρ, st, as, s, q, p⟩ := h
  refine ⟨ρ, st, as, s, q, ?_⟩
  show Post X.K T W (Reps X.K) as H _ ((evE C F ia ρ st).bind fun d st => (evEs C F .nil ρ st).bind fun ds st => .ok (d :: ds) st)
  dsimp only at p
  cases z : evE C F ia ρ st with
  | ok d st1 =>
    rw [z] at p
    have p' : PostL X.K T W as H Q (ok1 st1 (f d st1)) := p
    exact fun as' H' vs e1 s1 r1 => ⟨d, st1, as', s1, r1, PostL.shift e1 p'⟩
  | exc c st1 =>
    rw [z] at p
    exact p
  | stuck =>
    rw [z] at p
    exact p
theorem cr_listOf : CallR X (.type "list") (rL1 X T W fun d st => seqOf st d) := by
  intro pins s σ H xs us Q I r h
  obtain ⟨d, st, as, S, rr, p⟩ := h
  obtain ⟨z, hz, p⟩ := p.ok1
  obtain ⟨v, rfl, q⟩ := one_of (ds := []) rr
  obtain ⟨a, vs, rfl, h4, h5⟩ := rd_seq S q hz
  refine call_list_of pins s σ H _ us Q I r ⟨a, vs, rfl, ?_, fun l n => p.new S h4 n⟩
  rcases h5 with ⟨h5, _⟩ | ⟨h5, _⟩
  · exact .inl (.inl h5)
  · exact .inr h5
theorem s_listOf {p : Pos} (ha : SE X T W C F a ia) (hg : Gl X "list") (hm : X.mg "list" = none) : SL X T W C F (.Call (.Name "list" p) [a] [] pos) (.listOf ia) :=
  ⟨PE.weak (pe_callTy (T := "list") cr_listOf hg hm (by decide +kernel) (s_cons ha s_nil) (he := star_of ha.st [] X.env) (hpl := stars_any rfl)) fun σ H Q h => call1_of σ H Q h, rfl, rfl⟩
theorem s_sorted {p : Pos} (hu : X.A.units + 65 < cLine) (ha : SE X T W C F a ia) (hg : Gl X "sorted") (hm : X.mg "sorted" = none) : SL X T W C F (.Call (.Name "sorted" p) [a] [] pos) (.sorted ia) :=
  ⟨PE.weak (pe_callB (id := "sorted") (cr_sortedV hu) hg hm (by decide +kernel) (s_cons ha s_nil) (he := star_of ha.st [] X.env) (hpl := stars_any rfl)) fun σ H Q h => call1_of σ H Q h, rfl, rfl⟩

/-! ### operators -/
theorem s_bin (op : Op) (ha : SE X T W C F a ia) (hb : SE X T W C F b ib) : SE X T W C F (.BinOp a op.py b pos) (.bin op ia ib) :=
  .of (PE.weak (pe_op (op_bin op) ha.pe hb.pe) fun σ H Q h => bin_of σ H Q (fun x y H Q h => h) h) rfl rfl
theorem s_neg (ha : SE X T W C F a ia) : SE X T W C F (.UnaryOp .USub a pos) (.neg ia) := by
  refine .of (PE.weak (pe_un un_neg ha.pe) fun σ H Q ⟨ρ, st, as, s, r, p⟩ => ⟨ρ, st, as, s, r, ?_⟩) rfl rfl
  refine Post.bind (R := Rep X.K) (show Post X.K T W (Rep X.K) as H Q ((evE C F ia ρ st).bind _) from p) fun x st1 as1 H1 v e1 s1 r1 p1 => ?_
  cases x with
  | int j =>
    cases r1
    exact ⟨j, rfl, p1.here s1 (.int _)⟩
  | _ => exact p1.elim
theorem s_not (ha : SE X T W C F a ia) : SE X T W C F (.UnaryOp .Not a pos) (.not ia) := by
  refine ⟨PE.weak (pe_not ha.pe) fun σ H Q ⟨ρ, st, as, s, r, p⟩ => ⟨ρ, st, as, s, r, ?_⟩, PT.weak (pt_not ha.pt) fun σ H Q ⟨ρ, st, as, s, r, p⟩ => ⟨ρ, st, as, s, r, ?_⟩, rfl⟩
  · refine Post.bind (R := Rep X.K) (show Post X.K T W (Rep X.K) as H Q ((evE C F ia ρ st).bind _) from p) fun x st1 as1 H1 v e1 s1 r1 p1 => ?_
    cases x with
    | bl j =>
      cases r1
      exact ⟨j, rfl, p1.here s1 (.bl _)⟩
    | _ => exact p1.elim
  · have p' := p
    simp only [evC, evE] at p' ⊢
    cases q : evE C F ia ρ st with
    | ok d st1 =>
      rw [q] at p'
      cases d with
      | bl b => exact fun as' H' b' e1 s1 hb => by cases hb; exact p' as' H' _ e1 s1 rfl
      | _ => exact p'.elim
    | exc c st1 =>
      rw [q] at p'
      exact p'
    | stuck =>
      rw [q] at p'
      exact p'
end
end Rf

namespace Rf
open PySem PySem.Spec PyProof.Rows L2
section
variable {X : Cx} {T : List (Addr × Str)} {W : Str → Hp → Prop} {C : Calls} {F : Nat} {e a b c : Expr} {i ia ib ic : E} {pos : Pos}
/-- a test as a value that is a bool -/
theorem tT_tE {σ : L2.St} {H : Hp} {Q : Bool → Hp → Prop} (h : tT X T W C F i σ H Q) : tE X T W C F i σ H (fun x H' => ∃ k, x = .bl k ∧ Q k H') := by
  obtain ⟨ρ, st, as, s, r, p⟩ := h
  refine ⟨ρ, st, as, s, r, ?_⟩
  refine Post.bind (R := Rep X.K) (show Post X.K T W REq as H Q ((evE C F i ρ st).bind _) from p) fun x st1 as1 H1 v e1 s1 r1 p1 => ?_
  cases x with
  | bl b =>
    cases r1
    exact ⟨b, rfl, p1.here s1 rfl⟩
  | _ => exact p1.elim
theorem s_cmp (hu : X.A.units + 65 < cLine) (op : Cm) (ha : SE X T W C F a ia) (hb : SE X T W C F b ib) (hm : behindInMarks op.py b = false) : SE X T W C F (.Compare a [op.py] [b] pos) (.cmp op ia ib) :=
  ⟨PE.weak (pe_cmpR (op_cmp hu op) ha.pe hb.pe hm) fun σ H Q h => bin_of σ H Q (fun x y H Q h => h) h,
   PT.weak (pt_cmpR (op_cmp hu op) ha.pe hb.pe hm) fun σ H Q h => bin_of σ H _ (fun x y H Q h => h) (tT_tE h), rfl⟩
theorem chain_of (o1 o2 : Cm) (σ : L2.St) (H : Hp) (Q : VK) (h : tE X T W C F (.chain o1 o2 ia ib ic) σ H Q) :
    tChain (rV2 X T W fun d e st => (cmpV o1 (dr st d) (dr st e)).map .bl) (rV2 X T W fun d e st => (cmpV o2 (dr st d) (dr st e)).map .bl) (tE X T W C F ia) (tE X T W C F ib) (tE X T W C F ic) σ H Q := by
  obtain ⟨ρ, st, as, s, q, p⟩ := h
  refine ⟨ρ, st, as, s, q, Post.bind (R := Rep X.K) (show Post X.K T W (Rep X.K) as H Q ((evE C F ia ρ st).bind _) from p) fun x st1 as1 H1 v e1 s1 r1 p1 => ?_⟩
  refine ⟨ρ, st1, as1, s1, q.ext e1 s.ok, Post.bind (R := Rep X.K) p1 fun y st2 as2 H2 u e2 s2 r2 p2 => ?_⟩
  refine ⟨x, y, st2, as2, s2, r1.ext e2 s1.ok, r2, ?_⟩
  dsimp only
  cases z : cmpV o1 (dr st2 x) (dr st2 y) with
  | none =>
    rw [z] at p2
    exact p2.elim
  | some k =>
    rw [z] at p2
    intro as3 H3 w e3 s3 r3
    cases r3
    refine ⟨k, rfl, ?_⟩
    cases k with
    | false => exact iteF (p2 as3 H3 _ e3 s3 (.bl false))
    | true =>
      refine iteT ?_
      refine ⟨ρ, st2, as3, s3, (q.ext e1 s.ok).ext (e2.trans e3) s1.ok, Post.bind (R := Rep X.K) (Post.shift e3 p2) fun z' st4 as4 H4 w' e4 s4 r4 p4 => ?_⟩
      exact ⟨y, z', st4, as4, s4, r2.ext (e3.trans e4) s2.ok, r4, p4⟩
theorem s_chain (hu : X.A.units + 65 < cLine) (o1 o2 : Cm) (ha : SE X T W C F a ia) (hb : SE X T W C F b ib) (hc : SE X T W C F c ic) (hm : lastMarks [o1.py, o2.py] [b, c] = false) : SE X T W C F (.Compare a [o1.py, o2.py] [b, c] pos) (.chain o1 o2 ia ib ic) :=
  ⟨PE.weak (pe_chain (op_cmp hu o1) (op_cmp hu o2) ha.pe hb.pe hc.pe hm) fun σ H Q h => chain_of o1 o2 σ H Q h,
   PT.weak (pt_chain (op_cmp hu o1) (op_cmp hu o2) ha.pe hb.pe hc.pe hm) fun σ H Q h => chain_of o1 o2 σ H _ (tT_tE h), rfl⟩
theorem rep_non {K : PySem.W.Frag} {as : As} {H : Hp} {d : D} {v : V} (r : Rep K as H d v) : (d = .non ∧ v = .non) ∨ (d ≠ .non ∧ v ≠ .non) := by
  cases r <;> simp
theorem s_isN {j : Nat} {p : Pos} (ha : SE X T W C F a ia) : SE X T W C F (.Compare a [.Is] [.Constant .none j p] pos) (.isN ia) := by
  have k : ∀ σ H Q, tE X T W C F (.isN ia) σ H Q → tIsN (tE X T W C F ia) σ H Q := fun σ H Q ⟨ρ, st, as, s, q, p⟩ => by
    refine ⟨ρ, st, as, s, q, Post.bind (R := Rep X.K) (show Post X.K T W (Rep X.K) as H Q ((evE C F ia ρ st).bind _) from p) fun x st1 as1 H1 v e1 s1 r1 p1 => ?_⟩
    rcases rep_non r1 with ⟨rfl, rfl⟩ | ⟨n1, n2⟩
    · exact p1.here s1 (.bl true)
    · rw [decide_eq_false n2]
      refine p1.here s1 ?_
      cases x <;> first | exact absurd rfl n1 | exact .bl false
  exact ⟨PE.weak (pe_cmp (pc_isN ha.pe)) k, PT.weak (pt_cmp (pc_isN ha.pe)) fun σ H Q h => k σ H _ (tT_tE h), rfl⟩
theorem s_notN {j : Nat} {p : Pos} (ha : SE X T W C F a ia) : SE X T W C F (.Compare a [.IsNot] [.Constant .none j p] pos) (.notN ia) := by
  have k : ∀ σ H Q, tE X T W C F (.notN ia) σ H Q → tNotN (tE X T W C F ia) σ H Q := fun σ H Q ⟨ρ, st, as, s, q, p⟩ => by
    refine ⟨ρ, st, as, s, q, Post.bind (R := Rep X.K) (show Post X.K T W (Rep X.K) as H Q ((evE C F ia ρ st).bind _) from p) fun x st1 as1 H1 v e1 s1 r1 p1 => ?_⟩
    rcases rep_non r1 with ⟨rfl, rfl⟩ | ⟨n1, n2⟩
    · exact p1.here s1 (.bl false)
    · rw [decide_eq_false n2]
      refine p1.here s1 ?_
      cases x <;> first | exact absurd rfl n1 | exact .bl true
  exact ⟨PE.weak (pe_cmp (pc_notN ha.pe)) k, PT.weak (pt_cmp (pc_notN ha.pe)) fun σ H Q h => k σ H _ (tT_tE h), rfl⟩

/-! ### and, or -/
inductive SEs (X : Cx) (T : List (Addr × Str)) (W : Str → Hp → Prop) (C : Calls) (F : Nat) : List Expr → Es → Prop
  | nil : SEs X T W C F [] .nil
  | cons {e : Expr} {i : E} {es : List Expr} {is : Es} : SE X T W C F e i → SEs X T W C F es is → SEs X T W C F (e :: es) (.cons i is)
theorem SEs.pa : ∀ {es : List Expr} {is : Es}, SEs X T W C F es is → PA X es (tEs X T W C F is)
  | _, _, .nil => s_nil
  | _, _, .cons a b => s_cons a b.pa
theorem SEs.st : ∀ {es : List Expr} {is : Es}, SEs X T W C F es is → es.all nStar = true
  | _, _, .nil => rfl
  | _, _, .cons a b => by
    simp only [List.all_cons, Bool.and_eq_true]
    exact ⟨a.st, b.st⟩
theorem SEs.len : ∀ {es : List Expr} {is : Es}, SEs X T W C F es is → ∀ ρ st ds st', evEs C F is ρ st = .ok ds st' → ds.length = es.length
  | _, _, .nil, ρ, st, ds, st', h => by
    simp only [evEs] at h
    cases h
    rfl
  | _, _, .cons (i := i) (is := is) a b, ρ, st, ds, st', h => by
    simp only [evEs] at h
    cases q : evE C F i ρ st with
    | ok d st1 =>
      rw [q] at h
      cases q2 : evEs C F is ρ st1 with
      | ok ds' st2 =>
        have h' : Res.bind (evEs C F is ρ st1) (fun ds st => Res.ok (d :: ds) st) = .ok ds st' := h
        rw [q2] at h'
        cases h'
        rw [List.length_cons, List.length_cons, b.len ρ st1 ds' _ q2]
      | exc c st2 =>
        have h' : Res.bind (evEs C F is ρ st1) (fun ds st => Res.ok (d :: ds) st) = .ok ds st' := h
        rw [q2] at h'
        cases h'
      | stuck =>
        have h' : Res.bind (evEs C F is ρ st1) (fun ds st => Res.ok (d :: ds) st) = .ok ds st' := h
        rw [q2] at h'
        cases h'
    | exc c st1 =>
      rw [q] at h
      cases h
    | stuck =>
      rw [q] at h
      cases h
def bopPy : Bool → BoolOp
  | true => .And
  | false => .Or
/-- the test's reading of and, or -/
abbrev tBT (X : Cx) (T : List (Addr × Str)) (W : Str → Hp → Prop) (C : Calls) (F : Nat) (conj : Bool) (is : Es) : TT := tOf X.K T W REq (fun ρ st => (evB C F conj is ρ st).bind fun x st => (match x with | .bl b => .ok b st | _ => .stuck))
theorem s_bopV (conj : Bool) : ∀ {es : List Expr} {is : Es}, SEs X T W C F es is → es ≠ [] → PE X (.BoolOp (bopPy conj) es pos) (tOf X.K T W (Rep X.K) (evB C F conj is))
  | _, _, .nil, h => absurd rfl h
  | [e], _, .cons (i := i) a .nil, _ => by
    refine PE.weak (pe_one a.pe) fun σ H Q ⟨ρ, st, as, s, q, p⟩ => ⟨ρ, st, as, s, q, ?_⟩
    refine Post.bind (R := Rep X.K) (show Post X.K T W (Rep X.K) as H Q ((evE C F i ρ st).bind _) from p) fun x st1 as1 H1 v e1 s1 r1 p1 => ?_
    cases x with
    | bl b => exact p1.here s1 r1
    | _ => exact p1.elim
  | e :: e2 :: es, _, .cons (i := i) a (.cons (i := i2) (is := is) a2 b), _ => by
    have ih := s_bopV conj (.cons a2 b) (by simp)
    cases conj with
    | true =>
      refine PE.weak (pe_and a.pe ih) fun σ H Q ⟨ρ, st, as, s, q, p⟩ => ⟨ρ, st, as, s, q, ?_⟩
      refine Post.bind (R := Rep X.K) (show Post X.K T W (Rep X.K) as H Q ((evE C F i ρ st).bind _) from p) fun x st1 as1 H1 v e1 s1 r1 p1 => ?_
      cases x with
      | bl b =>
        cases r1
        refine ⟨b, rfl, ?_⟩
        cases b with
        | true => exact iteT ⟨ρ, st1, as1, s1, q.ext e1 s.ok, p1⟩
        | false => exact iteF (p1.here s1 (.bl _))
      | _ => exact p1.elim
    | false =>
      refine PE.weak (pe_or a.pe ih) fun σ H Q ⟨ρ, st, as, s, q, p⟩ => ⟨ρ, st, as, s, q, ?_⟩
      refine Post.bind (R := Rep X.K) (show Post X.K T W (Rep X.K) as H Q ((evE C F i ρ st).bind _) from p) fun x st1 as1 H1 v e1 s1 r1 p1 => ?_
      cases x with
      | bl b =>
        cases r1
        refine ⟨b, rfl, ?_⟩
        cases b with
        | false => exact iteF ⟨ρ, st1, as1, s1, q.ext e1 s.ok, p1⟩
        | true => exact iteT (p1.here s1 (.bl _))
      | _ => exact p1.elim
theorem s_bopT (conj : Bool) : ∀ {es : List Expr} {is : Es}, SEs X T W C F es is → es ≠ [] → PW X (.BoolOp (bopPy conj) es pos) (tBT X T W C F conj is)
  | _, _, .nil, h => absurd rfl h
  | [e], _, .cons (i := i) a .nil, _ => by
    have k : ∀ σ H Q, tBT X T W C F conj (.cons i .nil) σ H Q → tT X T W C F i σ H Q := fun σ H Q ⟨ρ, st, as, s, q, p⟩ => by
      refine ⟨ρ, st, as, s, q, ?_⟩
      simp only [evB] at p
      simp only [evC]
      cases z : evE C F i ρ st with
      | ok d st1 =>
        rw [z] at p
        cases d <;> first | exact p | exact p.elim
      | exc c st1 =>
        rw [z] at p
        exact p
      | stuck =>
        rw [z] at p
        exact p
    cases conj with
    | true => exact PW.weak (pw_and1 a.pt) k
    | false => exact PW.weak (pw_or1 a.pt) k
  | e :: e2 :: es, _, .cons (i := i) a (.cons (i := i2) (is := is) a2 b), _ => by
    have ih := s_bopT conj (.cons a2 b) (by simp)
    have k : ∀ σ H (Q : Bool → Hp → Prop), tBT X T W C F conj (.cons i (.cons i2 is)) σ H Q → tT X T W C F i σ H (fun c H1 => if c = conj then tBT X T W C F conj (.cons i2 is) σ H1 Q else Q (!conj) H1) := fun σ H Q ⟨ρ, st, as, s, q, p⟩ => by
      refine ⟨ρ, st, as, s, q, ?_⟩
      have p : Post X.K T W REq as H Q (((evE C F i ρ st).bind fun x st => (match x with
        | .bl b => (if b = conj then evB C F conj (.cons i2 is) ρ st else .ok (.bl b) st)
        | _ => .stuck)).bind fun x st => (match x with | .bl b => .ok b st | _ => .stuck)) := p
      simp only [evC]
      cases z : evE C F i ρ st with
      | ok d st1 =>
        rw [z] at p
        cases d with
        | bl b =>
          simp only [Res.bind] at p ⊢
          intro as1 H1 b' e1 s1 hb
          cases hb
          by_cases hbc : b = conj
          · rw [if_pos hbc]
            rw [if_pos hbc] at p
            exact ⟨ρ, st1, as1, s1, q.ext e1 s.ok, Post.shift e1 p⟩
          · rw [if_neg hbc]
            rw [if_neg hbc] at p
            have eb : b = !conj := by cases b <;> cases conj <;> simp at hbc ⊢
            rw [← eb]
            exact p as1 H1 b e1 s1 rfl
        | _ => exact p.elim
      | exc c st1 =>
        rw [z] at p
        exact p
      | stuck =>
        rw [z] at p
        exact p
    cases conj with
    | true => exact PW.weak (pw_and a.pt ih) fun σ H Q h => k σ H Q h
    | false =>
      refine PW.weak (pw_or a.pt ih) fun σ H Q h => ?_
      obtain ⟨ρ, st, as, s, q, p⟩ := k σ H Q h
      refine ⟨ρ, st, as, s, q, p.mono fun c H1 hc => ?_⟩
      cases c with
      | true => exact iteT (by simpa using hc)
      | false => exact iteF (by simpa using hc)
theorem s_bop (conj : Bool) {es : List Expr} {is : Es} (h : SEs X T W C F es is) (hne : es ≠ []) : SE X T W C F (.BoolOp (bopPy conj) es pos) (.bop conj is) := by
  refine ⟨PE.weak (s_bopV conj h hne) fun σ H Q h => ?_, PT.weak (s_bopT conj h hne).pt fun σ H Q h => ?_, rfl⟩
  · obtain ⟨ρ, st, as, s, q, p⟩ := h
    refine ⟨ρ, st, as, s, q, ?_⟩
    simp only [evE] at p
    exact p
  · obtain ⟨ρ, st, as, s, q, p⟩ := h
    refine ⟨ρ, st, as, s, q, ?_⟩
    simp only [evC, evE] at p
    exact p

/-! ### a if c else b -/
theorem pt_ife (hc : PT X c (tT X T W C F ic)) (ha : PT X a (tT X T W C F ia)) (hb : PT X b (tT X T W C F ib)) : PT X (.IfExp c a b pos) (tT X T W C F (.ife ic ia ib)) := by
  refine ⟨fun pins s σ H Q I h => ?_⟩
  show wpAny (model X.prog X.w) X.A (do if ← isTrue c X.env (eval c X.env) then isTrue a X.env (eval a X.env) else isTrue b X.env (eval b X.env)) _ _ _
  have k : tT X T W C F ic σ H (fun k H1 => if k = true then tT X T W C F ia σ H1 Q else tT X T W C F ib σ H1 Q) := by
    obtain ⟨ρ, st, as, s', q, p⟩ := h
    refine ⟨ρ, st, as, s', q, ?_⟩
    simp only [evC, evE] at p ⊢
    cases z : evE C F ic ρ st with
    | ok d st1 =>
      rw [z] at p
      cases d with
      | bl b' =>
        simp only [Res.bind] at p ⊢
        intro as1 H1 b'' e1 s1 hb
        cases hb
        cases b' with
        | true => exact iteT ⟨ρ, st1, as1, s1, q.ext e1 s'.ok, Post.shift e1 p⟩
        | false => exact iteF ⟨ρ, st1, as1, s1, q.ext e1 s'.ok, Post.shift e1 p⟩
      | _ => exact p.elim
    | exc c' st1 =>
      rw [z] at p
      exact p
    | stuck =>
      rw [z] at p
      exact p
  refine wpAny_bind (thn (hc.run pins s σ H _ I k) fun d s1 ⟨H1, I1, q1⟩ => ?_)
  cases d with
  | true => exact ha.run pins s1 σ H1 Q I1 (by simpa using q1)
  | false => exact hb.run pins s1 σ H1 Q I1 (by simpa using q1)
theorem s_ife (hc : SE X T W C F c ic) (ha : SE X T W C F a ia) (hb : SE X T W C F b ib) : SE X T W C F (.IfExp c a b pos) (.ife ic ia ib) := by
  refine ⟨PE.weak (pe_ifExp hc.pt ha.pe hb.pe) fun σ H Q ⟨ρ, st, as, s, q, p⟩ => ⟨ρ, st, as, s, q, ?_⟩, pt_ife hc.pt ha.pt hb.pt, rfl⟩
  simp only [evE] at p
  simp only [evC]
  cases z : evE C F ic ρ st with
  | ok d st1 =>
    rw [z] at p
    cases d with
    | bl b' =>
      simp only [Res.bind] at p ⊢
      intro as1 H1 b'' e1 s1 hb
      cases hb
      cases b' with
      | true => exact iteT ⟨ρ, st1, as1, s1, q.ext e1 s.ok, Post.shift e1 p⟩
      | false => exact iteF ⟨ρ, st1, as1, s1, q.ext e1 s.ok, Post.shift e1 p⟩
    | _ => exact p.elim
  | exc c' st1 =>
    rw [z] at p
    exact p
  | stuck =>
    rw [z] at p
    exact p
end
end Rf

namespace Rf
open PySem PySem.Spec PyProof.Rows L2
section
variable {X : Cx} {T : List (Addr × Str)} {W : Str → Hp → Prop} {C : Calls} {F : Nat} {e a b c : Expr} {i ia ib ic : E} {pos : Pos}
/-! ### a[b] -/
def noSlice : Expr → Bool
  | .Slice _ _ _ _ => false
  | _ => true
theorem plain_of {b : Expr} (h : noSlice b = true) : PlainIx b := by
  intro o i
  cases b <;> first | rfl | exact absurd h (by simp [noSlice])
theorem ixNat_eq (n : Nat) (i : Int) : ixNat n i = ixN n i := rfl
theorem ix_ok : ∀ (x y : V) (H : Hp) (Q : VK), (∃ d e st as, Sim X.K T st as H ∧ Rep X.K as H d x ∧ Rep X.K as H e y ∧ Post X.K T W (Rep X.K) as H Q (ok1 st (match ixK d e with
    | some d => some d
    | none => ixV st d e))) → rIx X.K x y H Q := by
  intro x y H Q ⟨d, e, st, as, s, r1, r2, p0⟩
  obtain ⟨z, hz, p⟩ := p0.ok1
  clear p0
  split at hz
  · rename_i d' hk
    cases hz
    unfold ixK at hk
    split at hk
    · rename_i ds
      split at hk
      · rename_i k
        split at hk
        · rename_i j hj
          rw [ixNat_eq] at hj
          cases r2
          cases r1 with
          | @kl a vs _ q w =>
            obtain ⟨v, h1, h2⟩ := w.get hk
            refine .inl ⟨a, vs, k, v, rfl, rfl, q.sq, ?_, p.here s h2⟩
            unfold atI
            rw [← w.length, hj]
            exact h1
        · cases hk
      · cases hk
    · cases hk
  rename_i hk0
  clear hk0
  unfold ixV at hz
  split at hz
  · rename_i k
    cases r2
    split at hz
    · rename_i ds hds
      split at hz
      · rename_i hl
        split at hz
        · rename_i j hj
          rw [ixNat_eq] at hj
          unfold items at hds
          split at hds
          · rename_i ds' e1
            cases hds
            obtain ⟨a, vs, rfl, q, w⟩ := rd_lst s r1 e1
            obtain ⟨v, h1, h2⟩ := w.get hz
            refine .inl ⟨a, vs, k, v, rfl, rfl, .inl q, ?_, p.here s h2⟩
            unfold atI
            rw [← w.length, hj]
            exact h1
          · rename_i ds' e1
            cases hds
            obtain ⟨a, vs, rfl, q, w⟩ := rd_tup s r1 e1
            obtain ⟨v, h1, h2⟩ := w.get hz
            refine .inr (.inl ⟨a, vs, k, v, rfl, rfl, q, ?_, p.here s h2⟩)
            unfold atI
            rw [← w.length, hj]
            exact h1
          · rename_i x e1
            cases hds
            have ev := rd_str s r1 e1
            subst ev
            rw [List.getElem?_map, Option.map_eq_some_iff] at hz
            obtain ⟨ch, h1, rfl⟩ := hz
            refine .inr (.inr ⟨x, k, ch, rfl, rfl, ?_, ?_, p.here s (.str _)⟩)
            · have := lenOk_sz hl
              simpa [Str.length] using this
            · unfold atI
              rw [List.length_map] at hj
              rw [hj]
              exact h1
          · cases hds
        · cases hz
      · cases hz
    · cases hz
  · cases hz
theorem s_ix (ha : SE X T W C F a ia) (hb : SE X T W C F b ib) (h : noSlice b = true) : SE X T W C F (.Subscript a b pos) (.ix ia ib) :=
  .of (PE.weak (pe_ix ix_seq ha.pe hb.pe (plain_of h)) fun σ H Q h => bin_of σ H Q ix_ok h) rfl rfl

/-! ### a[lo:hi] -/
theorem s_oNone : PO X none (tOe X T W C F .none) := PO.weak po_none fun σ H Q ⟨ρ, st, as, s, r, p⟩ => p.here s rfl
theorem s_oSome (h : SE X T W C F e i) : PO X (some e) (tOe X T W C F (.some i)) := by
  refine PO.weak (po_some h.pe) fun σ H Q ⟨ρ, st, as, s, r, p⟩ => ⟨ρ, st, as, s, r, ?_⟩
  refine Post.bind (R := Rep X.K) (show Post X.K T W REq as H Q ((evE C F i ρ st).bind _) from p) fun x st1 as1 H1 v e1 s1 r1 p1 => ?_
  cases x with
  | int j =>
    cases r1
    exact ⟨j, rfl, p1.here s1 rfl⟩
  | _ => exact p1.elim
theorem sIx_eq (n d : Nat) (o : Option Int) : sIxN n d o = HT.sIx n d o := by
  cases o with
  | none => rfl
  | some v =>
    show (if v < 0 then (max (v + n) 0).toNat else (min v n).toNat) = (if v < 0 then (v + (n : Int)).toNat else min v.toNat n)
    split <;> omega
theorem cut_reps {K : PySem.W.Frag} {as : As} {H : Hp} {ds : List D} {vs : List V} (r : Reps K as H ds vs) (lo hi : Option Int) : Reps K as H (cut ds lo hi) (cutV vs lo hi) := by
  unfold cut cutV
  rw [sIx_eq, sIx_eq, r.length]
  exact (r.drop _).take _
theorem sl_ok {l h : Option Int} : ∀ (x : V) (H : Hp) (Q : VK), (∃ d st as, Sim X.K T st as H ∧ Rep X.K as H d x ∧ Post X.K T W (Rep X.K) as H Q (ok1 st (slV (dr st d) l h))) → rSlL X.K x l h H Q ∨ (rSlA X.K x l h H Q ∨ rSlS x l h H Q) := by
  intro x H Q ⟨d, st, as, s, r1, p⟩
  obtain ⟨z, hz, p⟩ := p.ok1
  unfold slV at hz
  split at hz
  · rename_i ds e1
    cases hz
    obtain ⟨a, vs, rfl, q, w⟩ := rd_tup s r1 e1
    refine .inr (.inl ⟨a, vs, rfl, q, fun hw => ?_, fun hw a n => p.newT s (cut_reps w l h) n⟩)
    refine p.here s (.tup q ?_)
    have e : cut ds l h = ds := by
      unfold cut
      rw [sIx_eq, sIx_eq, w.length, hw.1, hw.2, List.drop_zero, Nat.sub_zero, ← w.length, List.take_length]
    rw [e]
    exact w
  · rename_i ds e1
    cases hz
    obtain ⟨a, vs, rfl, q, w⟩ := rd_lst s r1 e1
    exact .inl ⟨a, vs, rfl, .inl q, fun a n => p.newL s (cut_reps w l h) n⟩
  · rename_i y e1
    split at hz
    · rename_i hl
      cases hz
      have ev := rd_str s r1 e1
      subst ev
      refine .inr (.inr ⟨y, rfl, ?_, p.here s ?_⟩)
      · have := lenOk_sz hl
        simpa [Str.length] using this
      · have e : (⟨(cut y.cps.toList l h).toArray⟩ : Str) = cutS y l h := by
          unfold cut cutS
          rw [sIx_eq, sIx_eq]
          simp [Str.length]
        rw [e]
        exact .str _
    · cases hz
  · cases hz
theorem s_sl {lo hi : Option Expr} {jl jh : Oe} {p2 : Pos} (ha : SE X T W C F a ia) (hl : PO X lo (tOe X T W C F jl)) (hh : PO X hi (tOe X T W C F jh)) : SE X T W C F (.Subscript a (.Slice lo hi none p2) pos) (.sl ia jl jh) := by
  refine .of (PE.weak (pe_slice (sl_list.or (sl_tupA.or sl_str)) ha.pe hl hh) fun σ H Q ⟨ρ, st, as, s, q, p⟩ => ?_) rfl rfl
  refine ⟨ρ, st, as, s, q, Post.bind (R := Rep X.K) (show Post X.K T W (Rep X.K) as H Q ((evE C F ia ρ st).bind _) from p) fun x st1 as1 H1 v e1 s1 r1 p1 => ?_⟩
  refine ⟨ρ, st1, as1, s1, q.ext e1 s.ok, Post.bind (R := REq) p1 fun l st2 as2 H2 l' e2 s2 r2 p2 => ?_⟩
  refine ⟨ρ, st2, as2, s2, (q.ext e1 s.ok).ext e2 s1.ok, Post.bind (R := REq) p2 fun h st3 as3 H3 h' e3 s3 r3 p3 => ?_⟩
  cases r2
  cases r3
  exact sl_ok v H3 Q ⟨x, st3, as3, s3, r1.ext (e2.trans e3) s1.ok, p3⟩

/-! ### built-ins -/
theorem callN_of {f : List D → Hs → Option D} {is : Es} (σ : L2.St) (H : Hp) (Q : VK)
    (h : tOf X.K T W (Rep X.K) (fun ρ st => (evEs C F is ρ st).bind fun ds st => ok1 st (f ds st)) σ H Q) : tCB (rVs X T W f) (tEs X T W C F is) σ H Q := by
  obtain ⟨ρ, st, as, s, q, p⟩ := h
  exact ⟨ρ, st, as, s, q, Post.bind p fun ds st1 as1 H1 vs e1 s1 r1 p1 => ⟨ds, st1, as1, s1, r1, p1⟩⟩
theorem SEs.star {es : List Expr} {is : Es} (h : SEs X T W C F (e :: es) is) : nStar e = true ∧ es.all nStar = true := by
  have := h.st
  simpa only [List.all_cons, Bool.and_eq_true] using this
theorem s_blt (hc : X.calm = true) (f : Bf) {es : List Expr} {is : Es} {p : Pos} (ha : SEs X T W C F (e :: es) is) (hg : Gl X f.py) (hm : X.mg f.py = none) : SE X T W C F (.Call (.Name f.py p) (e :: es) [] pos) (.blt f is) := by
  refine .of ?_ rfl rfl
  have h1 := star_of ha.star.1 es X.env
  have h2 := stars_any (pos := pos) (env := X.env) ha.star.2
  cases f with
  | int => exact PE.weak (pe_callTy (T := "int") (cr_blt hc .int) hg hm (by decide +kernel) ha.pa (he := h1) (hpl := h2)) fun σ H Q h => callN_of σ H Q h
  | tuple => exact PE.weak (pe_callTy (T := "tuple") (cr_blt hc .tuple) hg hm (by decide +kernel) ha.pa (he := h1) (hpl := h2)) fun σ H Q h => callN_of σ H Q h
  | str => exact PE.weak (pe_callTy (T := "str") (cr_blt hc .str) hg hm (by decide +kernel) ha.pa (he := h1) (hpl := h2)) fun σ H Q h => callN_of σ H Q h
  | abs => exact PE.weak (pe_callB (id := "abs") (cr_blt hc .abs) hg hm (by decide +kernel) ha.pa (he := h1) (hpl := h2)) fun σ H Q h => callN_of σ H Q h
  | all => exact PE.weak (pe_callB (id := "all") (cr_blt hc .all) hg hm (by decide +kernel) ha.pa (he := h1) (hpl := h2)) fun σ H Q h => callN_of σ H Q h
  | any => exact PE.weak (pe_callB (id := "any") (cr_blt hc .any) hg hm (by decide +kernel) ha.pa (he := h1) (hpl := h2)) fun σ H Q h => callN_of σ H Q h
  | len => exact PE.weak (pe_callB (id := "len") (cr_blt hc .len) hg hm (by decide +kernel) ha.pa (he := h1) (hpl := h2)) fun σ H Q h => callN_of σ H Q h
  | max => exact PE.weak (pe_callB (id := "max") (cr_blt hc .max) hg hm (by decide +kernel) ha.pa (he := h1) (hpl := h2)) fun σ H Q h => callN_of σ H Q h
  | min => exact PE.weak (pe_callB (id := "min") (cr_blt hc .min) hg hm (by decide +kernel) ha.pa (he := h1) (hpl := h2)) fun σ H Q h => callN_of σ H Q h
  | sum => exact PE.weak (pe_callB (id := "sum") (cr_blt hc .sum) hg hm (by decide +kernel) ha.pa (he := h1) (hpl := h2)) fun σ H Q h => callN_of σ H Q h
  | max2 => exact PE.weak (pe_callB (id := "max") (cr_blt hc .max2) hg hm (by decide +kernel) ha.pa (he := h1) (hpl := h2)) fun σ H Q h => callN_of σ H Q h
  | min2 => exact PE.weak (pe_callB (id := "min") (cr_blt hc .min2) hg hm (by decide +kernel) ha.pa (he := h1) (hpl := h2)) fun σ H Q h => callN_of σ H Q h

/-! ### isinstance(a, t), t a built-in type -/
def Ty.py : Ty → Option String
  | .int => some "int"
  | .bool => some "bool"
  | .tuple => some "tuple"
  | .str => some "str"
  | .cls _ => none
theorem tyx_tup {K : PySem.W.Frag} {H : Hp} {a : Addr} {vs : List V} (h : SqT K H a vs) : TyX K H (.ref a) (.type "tuple") := by
  rcases h with (h | ⟨o, h⟩) | ⟨o, its, n, h1, h2, h3, h4, h5⟩
  · exact .base (.tup h)
  · exact .fTuple h
  · exact .kTuple h1 h2
theorem tyx_lst {K : PySem.W.Frag} {H : Hp} {a : Addr} {vs : List V} (h : Rd H a (.lst vs)) : TyX K H (.ref a) (.type "list") := by
  rcases h with h | ⟨o, h⟩
  · exact .base (.lst h)
  · exact .base (.frz h)
theorem isi_ok {t : Ty} {n : String} (ht : t.py = some n) : ∀ (d : D) (v : V) (st : Hs) (as : As) (H : Hp) (r : Bool), Sim X.K T st as H → Rep X.K as H d v → isiV t st d = some r → ∃ u, TyX X.K H v u ∧ PySem.W.kitOne X.K u (.type n) = some r := by
  intro d v st as H r s q h
  cases q with
  | non => cases t <;> cases ht <;> cases h <;> exact ⟨_, .base .non, kit_ty (by decide +kernel)⟩
  | bl b => cases t <;> cases ht <;> cases h <;> exact ⟨_, .base (.bl b), kit_ty (by decide +kernel)⟩
  | int b => cases t <;> cases ht <;> cases h <;> exact ⟨_, .base (.int b), kit_ty (by decide +kernel)⟩
  | str b => cases t <;> cases ht <;> cases h <;> exact ⟨_, .base (.str b), kit_ty (by decide +kernel)⟩
  | tup h1 _ => cases t <;> cases ht <;> cases h <;> exact ⟨_, tyx_tup h1, kit_ty (by decide +kernel)⟩
  | lst h1 _ _ _ => cases t <;> cases ht <;> cases h <;> exact ⟨_, tyx_lst h1, kit_ty (by decide +kernel)⟩
  | kl h1 _ => cases h
  | @ref m a h1 =>
    unfold isiV at h
    dsimp only at h
    split at h
    · rename_i ds hd
      obtain ⟨a', h2, _, vs, h4, _⟩ := s.at hd
      rw [h1] at h2
      cases h2
      cases t <;> cases ht <;> cases h <;> exact ⟨_, .base (.lst h4), kit_ty (by decide +kernel)⟩
    · cases h
theorem s_isi {t : Ty} {n : String} {p p2 : Pos} (ht : t.py = some n) (ha : SE X T W C F a ia) (hg : Gl X "isinstance") (hm : X.mg "isinstance" = none) (hg2 : Gl X (Str.ofString n)) (hm2 : X.mg (Str.ofString n) = none) :
    SE X T W C F (.Call (.Name "isinstance" p) [a, .Name (Str.ofString n) p2] [] pos) (.isi ia t) := by
  have hv : bootBuiltins (Str.ofString n) = some (.type n) ∧ Str.ofString n ≠ "__name__" ∧ (Str.ofString n == ("__debug__" : Str)) = false := by
    cases t <;> cases ht <;> exact ⟨by decide +kernel, by decide +kernel, by decide +kernel⟩
  have h2 : PE X (.Name (Str.ofString n) p2) (tC (.ty n)) := pe_bltn hg2 hm2 hv.1 rfl hv.2.1 hv.2.2
  refine .of (PE.weak (pe_callB (id := "isinstance") call_isi hg hm (by decide +kernel) (pa_cons ha.pe (pa_cons h2 pa_nil (star_of rfl [] X.env)) (star_of ha.st _ X.env)) (he := star_of ha.st _ X.env) (hpl := stars_any rfl)) fun σ H Q ⟨ρ, st, as, s, q, p⟩ => ?_) rfl rfl
  refine ⟨ρ, st, as, s, q, Post.bind (R := Rep X.K) (show Post X.K T W (Rep X.K) as H Q ((evE C F ia ρ st).bind _) from p) fun x st1 as1 H1 v e1 s1 r1 p1 => ?_⟩
  obtain ⟨z, hz, p1⟩ := p1.ok1
  obtain ⟨r, hr, rfl⟩ := Option.map_eq_some_iff.mp hz
  obtain ⟨u, h3, h4⟩ := isi_ok ht x v st1 as1 H1 r s1 r1 hr
  exact ⟨v, .ty n, u, .type n, r, rfl, .ty n, h3, h4, p1.here s1 (.bl _)⟩

/-! ### l.index(x) -/
theorem find_ix {ds : List D} {y : D} {j : Nat} (h : ds.findIdx? (fun d => eqD d y) = some j) : (∃ d, ds[j]? = some d ∧ eqD d y = true) ∧ ∀ (m : Nat) (z : D), m < j → ds[m]? = some z → eqD z y = false := by
  rw [List.findIdx?_eq_some_iff_getElem] at h
  obtain ⟨h1, h2, h3⟩ := h
  refine ⟨⟨ds[j], List.getElem?_eq_getElem h1, h2⟩, fun m z hm hz => ?_⟩
  have h4 := h3 m hm
  obtain ⟨hb, rfl⟩ := List.getElem?_eq_some_iff.mp hz
  simpa using h4
theorem shDs_get {n : Nat} : ∀ {ds : List D}, shDs n ds = true → ∀ {i : Nat} {d : D}, ds[i]? = some d → shD n d = true
  | [], _, _, _, h => by simp at h
  | x :: xs, h, 0, d, hd => by
    simp only [shDs, Bool.and_eq_true] at h
    simp at hd
    subst hd
    exact h.1
  | x :: xs, h, i + 1, d, hd => by
    simp only [shDs, Bool.and_eq_true] at h
    exact shDs_get h.2 (i := i) (by simpa using hd)
theorem s_idx {ap : Pos} (hu : X.A.units + 65 < cLine) (ha : SE X T W C F a ia) (hb : SE X T W C F b ib) (ho : okBase a = true) (hl : (ap.endLine == pos.line) = true) : SE X T W C F (.Call (.Attribute a "index" ap) [b] [] pos) (.idx ia ib) := by
  have hst : starEach [b] X.env = (false, eval b X.env) :: starEach [] X.env := star_of hb.st [] X.env
  refine .of (PE.weak (pe_bm (T := "list") (name := "index") (id := "list.index") PySem.F.plainAttrs_list PySem.F.slot_list_index (by with_unfolding_all rfl) (mt_indexD hu) ha.pe (s_cons hb s_nil) (hbase := base_of ho _ _ _) (hfew := ?_) (hline := hl) (hs := hst) (hplain := stars_any rfl)) fun σ H Q ⟨ρ, st, as, s, q, p⟩ => ?_) rfl rfl
  · rw [stars_all (by simp [hb.st])]
    rfl
  refine ⟨ρ, st, as, s, q, ?_⟩
  have p : Post X.K T W (Rep X.K) as H Q ((evE C F ia ρ st).bind fun x st => (match dr st x with
    | .lst _ => (evE C F ib ρ st).bind fun y st => ok1 st (idxV st x y)
    | _ => .stuck)) := p
  refine Post.bind (R := Rep X.K) p fun x st1 as1 H1 v e1 s1 r1 p1 => ?_
  split at p1
  · rename_i ds0 e0
    obtain ⟨l, vs0, rfl, h0, _⟩ := rd_lst s1 r1 e0
    refine ⟨.inl ⟨rfl, vs0, .inl h0⟩, ρ, st1, as1, s1, q.ext e1 s.ok, ?_⟩
    show Post X.K T W (Reps X.K) as1 H1 _ ((evE C F ib ρ st1).bind fun d st => (evEs C F .nil ρ st).bind fun ds st => .ok (d :: ds) st)
    cases z : evE C F ib ρ st1 with
    | ok y st2 =>
      rw [z] at p1
      have p1 : Post X.K T W (Rep X.K) as1 H1 Q (ok1 st2 (idxV st2 x y)) := p1
      intro as2 H2 us e2 s2 r2
      obtain ⟨u, rfl, r3⟩ := one_of (ds := []) r2
      obtain ⟨w, hw, p2⟩ := p1.ok1
      unfold idxV at hw
      split at hw
      · rename_i ds e3
        split at hw
        · rename_i hs
          obtain ⟨hs, h3⟩ := bnd hs
          obtain ⟨h1, h2⟩ := bnd hs
          split at hw
          · rename_i j hj
            cases hw
            obtain ⟨⟨z0, g1, g2⟩, g3⟩ := find_ix hj
            have r4 := r1.ext e2 s1.ok
            have dl : shD 61 (dr st2 x) = true := by
              rw [e3]
              exact (shD_succ_l (n := 60)).trans h2
            have dp := dp_dr s2 r4 dl
            rw [e3] at dp
            have sh : SeqAt.shaped (toP (.lst ds)) = true := shaped_toP (n := 61) ((shD_succ_l (n := 60)).trans h2) (by decide)
            have em : toP (.lst ds) = .list (toPs ds) := by simp [toP]
            rw [em] at dp sh
            refine ⟨l, u, toP y, toPs ds, j, toP z0, rfl, rfl, dp, dp_of 60 h1 r3, sh, shaped_toP h1 (by decide), ?_, ?_, ?_, p2 as2 H2 _ e2 s2 (.int _)⟩
            · rw [toPs_map, List.getElem?_map, g1]
              rfl
            · rw [eqv_toP 60 _ _ (shDs_get h2 g1) h1]
              exact g2
            · intro m z' hm hz'
              rw [toPs_map, List.getElem?_map, Option.map_eq_some_iff] at hz'
              obtain ⟨z1, hz1, rfl⟩ := hz'
              rw [eqv_toP 60 _ _ (shDs_get h2 hz1) h1]
              exact g3 m z1 hm hz1
          · cases hw
        · cases hw
      · cases hw
    | exc c st2 =>
      rw [z] at p1
      exact p1
    | stuck =>
      rw [z] at p1
      exact p1
  · exact p1.elim
end
end Rf

/-! Rf: targets. -/
namespace Rf
open PySem PySem.Spec PyProof.Rows L2
mutual
def Tg.names : Tg → List Nat
  | .name i => [i]
  | .tup ts => ts.names
  | .sub _ _ => []
def Tgs.names : Tgs → List Nat
  | .nil => []
  | .cons t ts => t.names ++ ts.names
end
/-- the same but for those slots -/
def Agree (ns : List Nat) (σ σ' : L2.St) : Prop := σ'.length = σ.length ∧ ∀ i, i ∉ ns → σ'[i]? = σ[i]?
theorem Agree.refl (ns : List Nat) (σ : L2.St) : Agree ns σ σ := ⟨rfl, fun _ _ => rfl⟩
theorem Agree.trans {ns ms : List Nat} {σ σ1 σ2 : L2.St} (a : Agree ns σ σ1) (b : Agree ms σ1 σ2) : Agree (ns ++ ms) σ σ2 :=
  ⟨b.1.trans a.1, fun i hi => by
    rw [List.mem_append, not_or] at hi
    rw [b.2 i hi.2, a.2 i hi.1]⟩
theorem Agree.wipe {ns own : List Nat} {σ σ' : L2.St} (a : Agree ns σ σ') (h : ∀ i ∈ ns, i ∈ own) : wipe σ' own = wipe σ own := by
  apply List.ext_getElem?
  intro i
  by_cases hi : i ∈ own
  · have e : ∀ (τ : L2.St) (own : List Nat), i ∈ own → (L2.wipe τ own)[i]? = if i < τ.length then some none else none := by
      intro τ own
      induction own with
      | nil => intro h; cases h
      | cons v vs ih =>
        intro h
        unfold L2.wipe
        by_cases hv : v = i
        · subst hv
          rw [List.getElem?_set]
          simp [wipe_length]
        · rw [List.getElem?_set_ne hv]
          exact ih ((List.mem_cons.mp h).resolve_left fun e => hv e.symm)
    rw [e _ _ hi, e _ _ hi, a.1]
  · have e : ∀ (τ : L2.St) (own : List Nat), i ∉ own → (L2.wipe τ own)[i]? = τ[i]? := by
      intro τ own
      induction own with
      | nil => intro h; rfl
      | cons v vs ih =>
        intro h
        rw [List.mem_cons, not_or] at h
        unfold L2.wipe
        rw [List.getElem?_set_ne (fun e => h.1 e.symm)]
        exact ih h.2
    rw [e _ _ hi, e _ _ hi]
    exact a.2 i fun hn => hi (h i hn)
/-- the names' values behind a target -/
def RG (K : PySem.W.Frag) (ns : List Nat) (σ : L2.St) (as : As) (H : Hp) (ρ' : Rho) (σ' : L2.St) : Prop := REnv K as H ρ' σ' ∧ Agree ns σ σ'
section
variable (X : Cx) (T : List (Addr × Str)) (W : Str → Hp → Prop) (C : Calls) (F : Nat)
def tG (t : Tg) : TG := fun v σ H Q => ∃ ρ st as d, Sim X.K T st as H ∧ REnv X.K as H ρ σ ∧ Rep X.K as H d v ∧ Post X.K T W (RG X.K t.names σ) as H Q (evTg C F t d ρ st)
def tGs (ts : Tgs) : TGs := fun vs σ H Q => ∃ ρ st as ds, Sim X.K T st as H ∧ REnv X.K as H ρ σ ∧ Reps X.K as H ds vs ∧ Post X.K T W (RG X.K ts.names σ) as H Q (evTgs C F ts ds ρ st)
structure SG (e : Expr) (t : Tg) : Prop where
  pg : PG X e (tG X T W C F t)
  st : nStar e = true
inductive SGs : List Expr → Tgs → Prop
  | nil : SGs [] .nil
  | cons {e : Expr} {t : Tg} {es : List Expr} {ts : Tgs} : SG X T W C F e t → SGs es ts → SGs (e :: es) (.cons t ts)
end
theorem PG.weak {X : Cx} {e : Expr} {t t' : TG} (h : PG X e t) (k : ∀ v σ H Q, t' v σ H Q → t v σ H Q) : PG X e t' := ⟨fun pins s σ H v u Q I r q => h.run pins s σ H v u Q I r (k v σ H Q q)⟩
theorem PGs.weak {X : Cx} {e : List Expr} {t t' : TGs} (h : PGs X e t) (k : ∀ v σ H Q, t' v σ H Q → t v σ H Q) : PGs X e t' := ⟨fun pins s σ H v u Q I r q => h.run pins s σ H v u Q I r (k v σ H Q q)⟩
theorem Post.weakR {K : PySem.W.Frag} {T : List (Addr × Str)} {W : Str → Hp → Prop} {α β : Type} {R R' : As → Hp → α → β → Prop} {as : As} {H : Hp} {Q : β → Hp → Prop} {r : Res α} (h : Post K T W R' as H Q r) (k : ∀ as H a b, R as H a b → R' as H a b) : Post K T W R as H Q r := by
  cases r with
  | ok a st => exact fun as' H' b e s r => h as' H' b e s (k _ _ _ _ r)
  | exc c st => exact h
  | stuck => exact h
section
variable {X : Cx} {T : List (Addr × Str)} {W : Str → Hp → Prop} {C : Calls} {F : Nat} {e a b c : Expr} {i ia ib ic : E} {pos : Pos}
theorem g_name {n : Nat} {x : Str} (hN : X.N.Nodup) (hi : X.N[n]? = some x) (hx : Loc X.env.scope x) (hf : X.fn x = true ∨ X.env.scope.names.lookup x = some .local) : SG X T W C F (.Name x pos) (.name n) := by
  refine ⟨PG.weak (pg_name hN hi hx hf) fun v σ H Q ⟨ρ, st, as, d, s, r, rd, p⟩ => ?_, rfl⟩
  have p : Post X.K T W (RG X.K [n] σ) as H Q (.ok (setI ρ n d) st) := p
  refine p.here s ⟨r.set n rd, by simp, fun i hi => ?_⟩
  rw [List.getElem?_set_ne]
  intro e
  exact hi (by simp [e])
theorem gs_of (hc : X.calm = true) : ∀ {es : List Expr} {ts : Tgs}, SGs X T W C F es ts → PGs X es (tGs X T W C F ts)
  | _, _, .nil => PGs.weak pgs_nil fun vs σ H Q ⟨ρ, st, as, ds, s, r, rd, p⟩ => by
    cases rd with
    | nil => exact ⟨rfl, p.here s ⟨r, Agree.refl _ _⟩⟩
    | cons _ _ => exact p.elim
  | e :: es, _, .cons (t := t) (ts := ts) a b => PGs.weak (pgs_cons a.pg (gs_of hc b) (by rw [asgn_of a.st]; rfl)) fun vs σ H Q ⟨ρ, st, as, ds, s, r, rd, p⟩ => by
    cases rd with
    | nil => exact p.elim
    | @cons d v ds vs rd rds =>
      refine ⟨v, vs, rfl, ρ, st, as, d, s, r, rd, ?_⟩
      refine Post.bind (R := RG X.K t.names σ) (show Post X.K T W (RG X.K (t.names ++ ts.names) σ) as H Q ((evTg C F t d ρ st).bind fun ρ st => evTgs C F ts ds ρ st) from p) fun ρ1 st1 as1 H1 σ1 e1 s1 r1 p1 => ?_
      exact ⟨ρ1, st1, as1, ds, s1, r1.1, rds.ext e1 s.ok, Post.weakR p1 fun as2 H2 ρ2 σ2 h => ⟨h.1, r1.2.trans h.2⟩⟩
theorem SGs.st : ∀ {es : List Expr} {ts : Tgs}, SGs X T W C F es ts → (assignEach es X.env).length = ts.len ∧ (assignEach es X.env).findIdx? (·.1) = none
  | _, _, .nil => ⟨rfl, rfl⟩
  | e :: es, _, .cons a b => by
    rw [asgn_of a.st]
    obtain ⟨h1, h2⟩ := b.st
    refine ⟨by simp [h1, Tgs.len], ?_⟩
    rw [List.findIdx?_cons]
    simp [h2]
theorem g_tup {es : List Expr} {ts : Tgs} {k : Nat} (hc : X.calm = true) (h : SGs X T W C F es ts) : SG X T W C F (.Tuple es k pos) (.tup ts) := by
  refine ⟨PG.weak (pg_tup hc (gs_of hc h) h.st.1 h.st.2) fun v σ H Q ⟨ρ, st, as, d, s, r, rd, p⟩ => ?_, rfl⟩
  cases rd with
  | @tup a vs ds hq rs =>
    have p : Post X.K T W (RG X.K ts.names σ) as H Q (if ds.length = ts.len then evTgs C F ts ds ρ st else .stuck) := p
    split at p
    · rename_i hl
      exact ⟨a, vs, rfl, hq, by rw [← rs.length]; exact hl, ρ, st, as, ds, s, r, rs, p⟩
    · exact p.elim
  | _ => exact p.elim
theorem g_sub (ha : SE X T W C F a ia) (hb : SE X T W C F b ib) (h : noSlice b = true) : SG X T W C F (.Subscript a b pos) (.sub ia ib) := by
  have hasg : ∀ v, assign (.Subscript a b pos) X.env v = (do
      let ov ← holding [v] (eval a X.env)
      let iv ← holding [v, ov] (eval b X.env)
      standAt pos
      holding [v, ov, iv] (setItem ov iv v)
      release [v, ov, iv] []) := by
    intro v
    cases b <;> first | rfl | exact absurd h (by simp [noSlice])
  refine ⟨PG.weak (pg_sub ha.pe hb.pe set_list hasg) fun v σ H Q ⟨ρ, st, as, d, s, r, rd, p⟩ => ?_, rfl⟩
  have p : Post X.K T W (RG X.K [] σ) as H Q ((evE C F ia ρ st).bind fun x st => (evE C F ib ρ st).bind fun y st => (match x, y with
    | .ref n, .int k => (match st[n]? with
      | some (.lst ds) => (match ixNat ds.length k with
        | some j => .ok ρ (st.set n (.lst (ds.set j d)))
        | none => .stuck)
      | _ => .stuck)
    | _, _ => .stuck)) := p
  refine ⟨ρ, st, as, s, r, Post.bind (R := Rep X.K) p fun x st1 as1 H1 v1 e1 s1 r1 p1 => ?_⟩
  refine ⟨ρ, st1, as1, s1, r.ext e1 s.ok, Post.bind (R := Rep X.K) p1 fun y st2 as2 H2 v2 e2 s2 r2 p2 => ?_⟩
  have r1' := r1.ext e2 s1.ok
  cases r1' with
  | @ref n l hp =>
    cases r2 with
    | int k =>
      dsimp only at p2
      split at p2
      · rename_i ds hds
        split at p2
        · rename_i j hj
          obtain ⟨q, h1, h2, vs, h3, h4⟩ := s2.at hds
          rw [hp] at h1
          cases h1
          rw [ixNat_eq] at hj
          refine ⟨l, vs, k, j, rfl, rfl, h3, by rw [← h4.length]; exact hj, ?_⟩
          have rd2 := (rd.ext e1 s.ok).ext e2 s1.ok
          have ex : Ext as2 H2 as2 (upd H2 l (.lst (vs.set j v))) := Ext.write s2.ok h2
          refine p2 as2 _ σ ex (s2.write hp ⟨_, upd_same, (h4.set rd2 j).ext ex s2.ok⟩) ⟨((r.ext e1 s.ok).ext e2 s1.ok).ext ex s2.ok, Agree.refl _ _⟩
        · exact p2.elim
      · exact p2.elim
    | _ => exact p2.elim
  | _ => exact p2.elim
end
end Rf

/-! Rf: what is walked. -/
namespace Rf
open PySem PySem.Spec PyProof.Rows L2
theorem meets_enumerate_new1 {v : Value} {o : Obj} {H : Heap → Prop} (B : Begins v o H) :
    Meets (Builtin.«enumerate.__new__» ⟨[.type "enumerate", v], []⟩) (fun _ R s => H s.heap ∧
      R (.ok (.ret (.ref (s.heap.push o).objs.size))) { s with heap := (s.heap.push o).push { cls := .type "enumerate", data := .fields #[.none, .bool false, .ref s.heap.objs.size, rawInt 0, .none, .none] } }) :=
  .of_wp fun prog w A R s h => by
    obtain ⟨hp, g, d, tk, os⟩ := s; obtain ⟨h1, h⟩ := h
    have hsub := sub_enumerate
    have q1 : ∀ {A' : Around} {E : Value → Shared → Prop} {Q : Value → Shared → Prop}, Q (.ref hp.objs.size) ⟨hp.push o, g, d, tk, os⟩ → wpAny (model prog w) A' (pyIter v) Q E ⟨hp, g, d, tk, os⟩ :=
      fun q => B.iter prog w _ _ ⟨hp, g, d, tk, os⟩ _ h1 q
    wp_walk
    refine wpAny_stack_any fun st => wpAny_pure ?_
    split
    · rename_i c _ _ _ _ _
      cases (c == Value.type "enumerate")
      · wp_walk using q1
        exact ⟨_, rfl, h⟩
      · wp_walk using q1
        exact ⟨_, rfl, h⟩
    · wp_walk using q1
      exact ⟨_, rfl, h⟩
section
variable {prog : Program} {w : World} {A : Around} {E : Value → Shared → Prop} {s : Shared}
theorem call_enumerate_tup {l : Addr} {items : Array Value} {Q : Value → Shared → Prop} (hL : s.heap.IsTuple l items)
    (h : ∀ h', IsEnum h' (s.heap.objs.size + 1) s.heap.objs.size 0 .none → h'.IsTupleIter s.heap.objs.size l 0 → h'.objs.size = s.heap.objs.size + 2 →
      (∀ b o, s.heap.get? b = some o → h'.get? b = some o) → Q (.ref (s.heap.objs.size + 1)) { s with heap := h' }) :
    wpAny (model prog w) A (call (.type "enumerate") [.ref l]) Q E s := by
  refine callType_new F.called_enumerate (by decide) (F.typeCall_enumerate_1 _) (F.newCall_enumerate_1 _) (fun obj => F.args_object_init_2 obj _) F.entry_enumerate_new
    (meets_enumerate_new1 (begins_tuple l items)) ⟨hL, ?_⟩
  have hz : (s.heap.push { cls := .type "tuple_iterator", data := .fields #[.ref l, .int 0 0] }).objs.size = s.heap.objs.size + 1 := Heap.size_push ..
  show _ ∧ _
  rw [hz]
  have he : IsEnum ((s.heap.push { cls := .type "tuple_iterator", data := .fields #[.ref l, .int 0 0] }).push
      { cls := .type "enumerate", data := .fields #[.none, .bool false, .ref s.heap.objs.size, rawInt 0, .none, .none] }) (s.heap.objs.size + 1) s.heap.objs.size 0 .none := by
    have := Heap.get?_push_size (s.heap.push { cls := .type "tuple_iterator", data := .fields #[.ref l, .int 0 0] })
      (o := { cls := .type "enumerate", data := .fields #[.none, .bool false, .ref s.heap.objs.size, rawInt 0, .none, .none] }) rfl
    rw [hz] at this; exact this
  refine ⟨⟨_, he, rfl⟩, h _ he ⟨_, Heap.get?_push_of_some _ (Heap.get?_push_size _ rfl), rfl, rfl⟩ (by rw [Heap.size_push, hz]) fun b o x => Heap.get?_push_of_some _ (Heap.get?_push_of_some _ x)⟩
end
/-- the tuple at a, each item in a new pair -/
def IteT (K : PySem.W.Frag) (a : Addr) : L2.It :=
  ⟨fun i H => ∃ (xs : List V) (x : V), SqT K H a xs ∧ xs[i]? = some x, fun i H v H' => ∃ T x, v = .ref T ∧ H T = none ∧ H' = upd H T (.tup [.int (i : Nat), x]) ∧ ∀ xs, SqT K H a xs → xs[i]? = some x, fun i H => ∃ xs : List V, SqT K H a xs ∧ xs.length = i⟩
theorem turn_enumT {P : Program} {w : World} {K : PySem.W.Frag} {elts : List Expr} {kk : Nat} {tpos : Pos} (a e it : Addr) :
    Turn P w K (.Tuple elts kk tpos) (IteT K a) [e, it] e (fun i h => (∃ old, IsEnum h e it ((i : Nat) : Int) old) ∧ h.IsTupleIter it a i ∧ e ≠ it) where
  mem := by simp
  obj := fun i h st b hb => by
    obtain ⟨⟨old, he⟩, ⟨o, ho, hc, hd⟩, _⟩ := st
    have e' : b = e ∨ b = it := by simpa using hb
    rcases e' with z | z
    · rw [z]; exact ⟨_, he, fun v q => nomatch q⟩
    · rw [z]; exact ⟨o, ho, fun v q => by rw [hd] at q; cases q⟩
  keep := fun i h h' st k => let ⟨⟨old, he⟩, hi, hne⟩ := st; ⟨⟨old, k e (by simp) _ he⟩, hi.at fun o q => k it (by simp) o q, hne⟩
  item := by
    intro X hP hw hK hc i pins s σ H E I hf st hg
    subst hP hw hK
    obtain ⟨⟨old, he⟩, hit, hne⟩ := st
    obtain ⟨xs, x, hq, hx⟩ := hg
    obtain ⟨its, rv, p, hz⟩ := I.tuple hq
    obtain ⟨u, hu, ru⟩ := rv.get hx
    have hel : e < s.heap.objs.size := Heap.lt_size he
    have hil : it < s.heap.objs.size := by obtain ⟨_, q, _⟩ := hit; exact Heap.lt_size q
    have hae : e ≠ a := fun z => by
      obtain ⟨o, h1, h2, _⟩ := p
      rw [← z] at h1
      have h3 := he.symm.trans h1
      cases h3
      exact absurd (Value.type.inj h2) (by decide)
    have hai : a ≠ it := fun z => by
      obtain ⟨o, h1, h2, _⟩ := p
      obtain ⟨o', h3, h4, _⟩ := hit
      rw [z, h3] at h1
      cases h1
      rw [h4] at h2
      exact absurd (Value.type.inj h2) (by decide)
    have hsz : its.toArray.size = xs.length := by rw [List.size_toArray]; exact rv.length.symm
    have hlt : i < its.toArray.size := by rw [hsz]; exact (List.getElem?_eq_some_iff.mp hx).1
    refine wpAny_pyNext_enum_itemD (Draws.tuple (A := X.A.in1) (show X.A.in1.handled = none from I.ok.hd hc) it a hai its.toArray) he ⟨hit, p⟩ hlt hne (by simp [hne, hae]) fun x' h' tk hx' ho hit' hT hsz hk => ?_
    have exx : x' = u := by
      have : its.toArray[i]? = some u := by simpa using hu
      rw [this] at hx'
      exact (Option.some.inj hx').symm
    subst exx
    refine ⟨_, rfl, wpAny_letOwnedTupleGo_enum (s := { s with heap := h', toks := tk + 1 }) ho fun h'' he' sb => ?_⟩
    have hT2 : h''.get? s.heap.objs.size = some { cls := .type "tuple", data := .seq #[.int i tk, x'] } := (sb.2 _ (Nat.ne_of_gt hel)).trans hT
    have new : ObjOk X.prog X.w (upd H s.heap.objs.size (.tup [.int (i : Nat), x])) h'' s.heap.objs.size (.tup [.int (i : Nat), x]) :=
      ⟨by show 2 ≤ sizeLine; decide, [.int i tk, x'], .cons ⟨_, rfl⟩ (.cons ru .nil), ⟨_, hT2, rfl, _, rfl⟩⟩
    have I1 : Inv X pins σ (upd H s.heap.objs.size (.tup [.int (i : Nat), x])) { s with heap := h'', toks := tk + 1 } :=
      I.turnedNew (ch := [e, it]) (fun b ob hb q => (sb.2 b (fun z => hb (by simp [z]))).trans (hk b ob (fun z => hb (by simp [z])) (fun z => hb (by simp [z])) q)) hf (Nat.le_refl _) new
    refine ⟨.ref s.heap.objs.size, _, I1, rfl, ⟨_, x, rfl, I.hok.fresh (Nat.le_refl _), rfl, fun ys hy => by rw [I.tuple_inj hy hq]; exact hx⟩, ⟨⟨x', ?_⟩, hit'.1.at fun o q => (sb.2 it (Ne.symm hne)).trans q, hne⟩, fun b hb => ?_⟩
    · have e1 : ((i + 1 : Nat) : Int) = (i : Int) + 1 := by omega
      rw [e1]; exact he'
    · have hb' : b < s.heap.objs.size := by
        have e' : b = e ∨ b = it := by simpa using hb
        rcases e' with z | z
        · rw [z]; exact hel
        · rw [z]; exact hil
      rw [upd_ne (Nat.ne_of_lt hb')]
      exact (hf b hb).1
  done := by
    intro X hP hw hK hc i pins s σ H E I hf st hg
    subst hP hw hK
    obtain ⟨⟨old, he⟩, hit, hne⟩ := st
    obtain ⟨xs, hq, hx⟩ := hg
    obtain ⟨its, rv, p, hz⟩ := I.tuple hq
    obtain ⟨f0, f1, f2, f3, f4, f5⟩ := hf it (by simp)
    have hai : a ≠ it := fun z => by
      obtain ⟨o, h1, h2, _⟩ := p
      obtain ⟨o', h3, h4, _⟩ := hit
      rw [z, h3] at h1
      cases h1
      rw [h4] at h2
      exact absurd (Value.type.inj h2) (by decide)
    have hsz : its.toArray.size = i := by rw [List.size_toArray, ← rv.length]; exact hx
    refine wpAny_pyNext_enum_endD (Draws.tuple (A := X.A.in1) (show X.A.in1.handled = none from I.ok.hd hc) it a hai its.toArray) he ⟨by rw [hsz]; exact hit, p⟩ fun h' eb => ⟨rfl, I.turned (t' := s.toks) (fun b o hb q => eb b o hb q) f0 f1 f3 f4 f5⟩
  self := fun A i s Q E st h => let ⟨⟨_, he⟩, _⟩ := st; wpAny_pyIter_enum he h
section
variable {X : Cx} {tg : Expr}
/-- a list or a tuple, enumerated -/
def iEnumA (K : PySem.W.Frag) (ta : TA) : TI := fun σ H R => ta σ H fun vs H1 => ∃ a, vs = [.ref a] ∧ ((∃ xs, SqL K H1 a xs ∧ R (Ite K a) H1) ∨ ∃ xs, SqT K H1 a xs ∧ R (IteT K a) H1)
theorem pi_enumA {e : Expr} {ta : TA} {p pos tpos : Pos} {elts : List Expr} {kk : Nat} (hg : Gl X "enumerate") (hm : X.mg "enumerate" = none) (ha : PA X [e] ta) (hs : starEach [e] X.env = [(false, eval e X.env)]) :
    PI X (.Tuple elts kk tpos) (.Call (.Name "enumerate" p) [e] [] pos) (iEnumA X.K ta) := by
  refine ⟨fun pins s σ H R I h => ?_⟩
  refine Call_ (ld_blt I hg hm boot_enumerate (PyProof.Rows.callWith_type1 (thn (ha.run pos pins s σ H _ I h) fun us s1 ⟨vs, H1, I1, r1, q1⟩ => ?_) hs rfl))
  obtain ⟨a, ex, q⟩ := q1
  subst ex
  cases r1 with
  | cons r rr =>
    cases rr
    cases r
    have hb : ∀ b, b ∈ [s1.heap.objs.size + 1, s1.heap.objs.size] → FpOk X pins H1 b := fun b hb => by
      have e' : b = s1.heap.objs.size + 1 ∨ b = s1.heap.objs.size := by simpa using hb
      have hle : s1.heap.objs.size ≤ b := by
        rcases e' with z | z
        · rw [z]; exact Nat.le_add_right _ _
        · rw [z]; exact Nat.le_refl _
      exact I1.fpOk hle (I1.hok.fresh hle)
    rcases q with ⟨xs, hq, q⟩ | ⟨xs, hq, q⟩
    · obtain ⟨its, rv, p', hz⟩ := I1.list hq
      refine call_enumerate_list p'.isList fun h' he hit hsz hk => wpAny_pyIter_enum he ?_
      have I2 : Inv X pins σ H1 { s1 with heap := h' } := I1.kept (t' := s1.toks) hk
      exact ⟨s1.heap.objs.size + 1, [s1.heap.objs.size + 1, s1.heap.objs.size], _, _, H1, rfl, I2, turn_enum a (s1.heap.objs.size + 1) s1.heap.objs.size, ⟨⟨.none, he⟩, hit, Nat.succ_ne_self _⟩, hb, q⟩
    · obtain ⟨its, rv, p', hz⟩ := I1.tuple hq
      refine call_enumerate_tup (show s1.heap.IsTuple a its.toArray from p') fun h' he hit hsz hk => wpAny_pyIter_enum he ?_
      have I2 : Inv X pins σ H1 { s1 with heap := h' } := I1.kept (t' := s1.toks) hk
      exact ⟨s1.heap.objs.size + 1, [s1.heap.objs.size + 1, s1.heap.objs.size], _, _, H1, rfl, I2, turn_enumT a (s1.heap.objs.size + 1) s1.heap.objs.size, ⟨⟨.none, he⟩, hit, Nat.succ_ne_self _⟩, hb, q⟩
/-- a list, a tuple, a text -/
def iSeq (K : PySem.W.Frag) (tl : TE) : TI := fun σ H R => tl σ H fun x H1 => (∃ a xs, x = .ref a ∧ SqL K H1 a xs ∧ R (Itl K a) H1) ∨ (∃ a xs, x = .ref a ∧ SqT K H1 a xs ∧ R (Itt K a) H1) ∨ ∃ z, x = .str z ∧ R (Its z) H1
theorem pi_seq {l : Expr} {tl : TE} (hl : PE X l tl) : PI X tg l (iSeq X.K tl) := by
  refine ⟨fun pins s σ H R I h => ?_⟩
  refine thn (hl.run pins s σ H _ I h) fun v s1 ⟨x, H1, I1, r1, q1⟩ => ?_
  rcases q1 with ⟨a, xs, e, hq, q⟩ | ⟨a, xs, e, hq, q⟩ | ⟨z, e, q⟩
  · subst e
    cases r1
    obtain ⟨its, rv, p, hz⟩ := I1.list hq
    refine wpAny_pyIter_list p.isList ?_
    refine ⟨s1.heap.objs.size, [s1.heap.objs.size], _, _, H1, rfl, I1.kept (t' := s1.toks) fun b o e => Heap.get?_push_of_some _ e, turn_list a _, ⟨_, Heap.get?_push_size _ rfl, rfl, rfl⟩, fun b hb => ?_, q⟩
    have e : b = s1.heap.objs.size := by simpa using hb
    subst e
    exact I1.fpOk (Nat.le_refl _) (I1.hok.fresh (Nat.le_refl _))
  · subst e
    cases r1
    obtain ⟨its, rv, p, hz⟩ := I1.tuple hq
    refine wpAny_pyIter_tuple (show s1.heap.IsTuple a its.toArray from p) ?_
    refine ⟨s1.heap.objs.size, [s1.heap.objs.size], _, _, H1, rfl, I1.kept (t' := s1.toks) fun b o e => Heap.get?_push_of_some _ e, turn_tuple a _, ⟨_, Heap.get?_push_size _ rfl, rfl, rfl⟩, fun b hb => ?_, q⟩
    have e : b = s1.heap.objs.size := by simpa using hb
    subst e
    exact I1.fpOk (Nat.le_refl _) (I1.hok.fresh (Nat.le_refl _))
  · subst e
    obtain ⟨t, rfl⟩ := r1
    cases ha : z.cps.all (· < 128)
    · exact wpAny_pyIter_wide ha (pi_one (tk := s1.toks) I1 _ (turn_str _ z t "str_iterator" (.inr rfl)) ⟨_, Heap.get?_push_size _ rfl, rfl, rfl⟩ q)
    · exact wpAny_pyIter_ascii ha (pi_one (tk := s1.toks) I1 _ (turn_str _ z t "str_ascii_iterator" (.inl rfl)) ⟨_, Heap.get?_push_size _ rfl, rfl, rfl⟩ q)
end
end Rf

/-! Rf: iterators, for, while. -/
namespace Rf
open PySem PySem.Spec PyProof.Rows L2
def Src.en : Src → Bool
  | .st en _ => en
  | .dyn en _ => en
def curItems (st : Hs) : Src → Option (List D)
  | .st _ ds => some ds
  | .dyn _ n => (match st[n]? with
    | some (.lst ds) => some ds
    | _ => none)
def JOf (K : PySem.W.Frag) (T : List (Addr × Str)) (as : As) (H : Hp) (src : Src) (J : L2.It) : Prop := ∀ as2 H2 st2 ds i, Ext as H as2 H2 → Sim K T st2 as2 H2 → curItems st2 src = some ds →
  (ds.length ≤ i → (i = ds.length ∨ ∃ en n, src = .dyn en n) → J.stop i H2) ∧ ∀ d, ds[i]? = some d → J.go i H2 ∧ ∀ x H3, J.yld i H2 x H3 → Ext as2 H2 as2 H3 ∧ Sim K T st2 as2 H3 ∧ Rep K as2 H3 (itemAt src.en i d) x
section
variable (X : Cx) (T : List (Addr × Str)) (W : Str → Hp → Prop) (C : Calls) (F : Nat)
def tI (it : Rf.It) : TI := fun σ H R => ∃ ρ st as, Sim X.K T st as H ∧ REnv X.K as H ρ σ ∧ Post X.K T W (JOf X.K T) as H R (evIt C F it ρ st)
end
theorem PI.weak {X : Cx} {tg e : Expr} {t t' : TI} (h : PI X tg e t) (k : ∀ σ H Q, t' σ H Q → t σ H Q) : PI X tg e t' := ⟨fun pins s σ H Q I q => h.run pins s σ H Q I (k σ H Q q)⟩
section
variable {K : PySem.W.Frag} {T : List (Addr × Str)} {as : As} {H : Hp}
theorem sqL_inj {a : Addr} {xs ys : List V} {o : HO} (h : Rd H a (.lst xs)) (n : ∀ b o, K.lookup b = some o → H b = none) (h2 : SqL K H a ys) : xs = ys := by
  rcases h2 with h2 | ⟨o', _, _, h2, _⟩
  · rcases h with h | ⟨o, h⟩ <;> rcases h2 with h2 | ⟨o2, h2⟩ <;> rw [h] at h2 <;> cases h2 <;> rfl
  · have := n _ _ h2
    rcases h with h | ⟨o, h⟩ <;> rw [h] at this <;> cases this
theorem itemAt_rep {st : Hs} {i : Nat} {d : D} {x : V} {a : Addr} (s : Sim K T st as H) (r : Rep K as H d x) (n : H a = none) : Rep K as (upd H a (.tup [.int (i : Nat), x])) (itemAt true i d) (.ref a) :=
  .tup (.inl (.inl upd_same)) (.cons (.int _) (.cons (r.ext (Ext.fresh n) s.ok) .nil))
/-- a list by value or a cell, walked -/
theorem j_list {a : Addr} {src : Src} (hen : src.en = false) (h : ∀ as2 H2 st2 ds, Ext as H as2 H2 → Sim K T st2 as2 H2 → curItems st2 src = some ds → ∃ vs, Rd H2 a (.lst vs) ∧ Reps K as2 H2 ds vs) : JOf K T as H src (Itl K a) := by
  intro as2 H2 st2 ds i e s hc
  obtain ⟨vs, q, w⟩ := h as2 H2 st2 ds e s hc
  refine ⟨fun hi _ => ⟨vs, .inl q, by rw [← w.length]; exact hi⟩, fun d hd => ?_⟩
  obtain ⟨v, h1, h2⟩ := w.get hd
  refine ⟨⟨vs, v, .inl q, h1⟩, fun x H3 ⟨e3, h3⟩ => ?_⟩
  subst e3
  have h4 := h3 vs (.inl q)
  rw [h1] at h4
  cases h4
  refine ⟨Ext.refl _ _, s, ?_⟩
  rw [hen]
  exact h2
theorem j_enum {a : Addr} {src : Src} (hen : src.en = true) (h : ∀ as2 H2 st2 ds, Ext as H as2 H2 → Sim K T st2 as2 H2 → curItems st2 src = some ds → ∃ vs, Rd H2 a (.lst vs) ∧ Reps K as2 H2 ds vs) : JOf K T as H src (Ite K a) := by
  intro as2 H2 st2 ds i e s hc
  obtain ⟨vs, q, w⟩ := h as2 H2 st2 ds e s hc
  refine ⟨fun hi _ => ⟨vs, .inl q, by rw [← w.length]; exact hi⟩, fun d hd => ?_⟩
  obtain ⟨v, h1, h2⟩ := w.get hd
  refine ⟨⟨vs, v, .inl q, h1⟩, fun x H3 ⟨t, y, ex, n, e3, h3⟩ => ?_⟩
  subst ex e3
  have h4 := h3 vs (.inl q)
  rw [h1] at h4
  cases h4
  refine ⟨Ext.fresh n, s.fresh n, ?_⟩
  rw [hen]
  exact itemAt_rep s h2 n
theorem j_tup {a : Addr} {vs : List V} {ds : List D} {st : Hs} (s0 : Sim K T st as H) (q0 : SqT K H a vs) (w0 : Reps K as H ds vs) : JOf K T as H (.st false ds) (Itt K a) := by
  intro as2 H2 st2 ds' i e s hc
  cases hc
  have q := sqT_ext e s0.ok q0
  have w := w0.ext e s0.ok
  refine ⟨fun hi _ => ⟨vs, q, by rw [← w.length]; exact hi⟩, fun d hd => ?_⟩
  obtain ⟨v, h1, h2⟩ := w.get hd
  refine ⟨⟨vs, v, q, h1⟩, fun x H3 ⟨e3, h3⟩ => ?_⟩
  subst e3
  have h4 := h3 vs q
  rw [h1] at h4
  cases h4
  exact ⟨Ext.refl _ _, s, h2⟩
theorem j_enumT {a : Addr} {vs : List V} {ds : List D} {st : Hs} (s0 : Sim K T st as H) (q0 : SqT K H a vs) (w0 : Reps K as H ds vs) : JOf K T as H (.st true ds) (IteT K a) := by
  intro as2 H2 st2 ds' i e s hc
  cases hc
  have q := sqT_ext e s0.ok q0
  have w := w0.ext e s0.ok
  refine ⟨fun _ hi => ⟨vs, q, ?_⟩, fun d hd => ?_⟩
  · rcases hi with hi | ⟨_, _, hi⟩
    · rw [← w.length, hi]
    · cases hi
  obtain ⟨v, h1, h2⟩ := w.get hd
  refine ⟨⟨vs, v, q, h1⟩, fun x H3 ⟨t, y, ex, n, e3, h3⟩ => ?_⟩
  subst ex e3
  have h4 := h3 vs q
  rw [h1] at h4
  cases h4
  exact ⟨Ext.fresh n, s.fresh n, itemAt_rep s h2 n⟩
theorem j_str (z : Str) : JOf K T as H (.st false (z.cps.toList.map fun c => .str ⟨#[c]⟩)) (Its z) := by
  intro as2 H2 st2 ds' i e s hc
  cases hc
  refine ⟨fun hi _ => ?_, fun d hd => ?_⟩
  · have hi : (z.cps.toList.map fun c => D.str ⟨#[c]⟩).length ≤ i := hi
    rw [List.length_map, Array.length_toList] at hi
    exact hi
  · rw [List.getElem?_map, Option.map_eq_some_iff] at hd
    obtain ⟨c, h1, rfl⟩ := hd
    have h1' : z.cps[i]? = some c := by simpa using h1
    refine ⟨(Array.getElem?_eq_some_iff.mp h1').1, fun x H3 ⟨e3, c', h2, ex⟩ => ?_⟩
    subst ex e3
    rw [h1'] at h2
    cases h2
    exact ⟨Ext.refl _ _, s, .str _⟩
theorem rngL_get : ∀ (n : Nat) (lo : Int) (i : Nat), i < n → (rngL lo n)[i]? = some (.int (lo + i))
  | n + 1, lo, 0, _ => by simp [rngL]
  | n + 1, lo, i + 1, h => by
    show (rngL (lo + 1) n)[i]? = _
    rw [rngL_get n (lo + 1) i (by omega)]
    congr 2
    omega
theorem rngL_len : ∀ (n : Nat) (lo : Int), (rngL lo n).length = n
  | 0, _ => rfl
  | n + 1, lo => by simp [rngL, rngL_len n]
theorem j_rng (lo : Int) (n : Nat) : JOf K T as H (.st false (rngL lo n)) (Itr lo n) := by
  intro as2 H2 st2 ds' i e s hc
  cases hc
  refine ⟨fun hi _ => by rw [rngL_len] at hi; exact hi, fun d hd => ?_⟩
  have hi : i < n := by
    have := (List.getElem?_eq_some_iff.mp hd).1
    rwa [rngL_len] at this
  rw [rngL_get n lo i hi] at hd
  cases hd
  refine ⟨hi, fun x H3 ⟨e3, ex⟩ => ?_⟩
  subst ex e3
  exact ⟨Ext.refl _ _, s, .int _⟩
end
section
variable {X : Cx} {T : List (Addr × Str)} {W : Str → Hp → Prop} {C : Calls} {F : Nat} {tg e a b c : Expr} {i ia ib ic : E} {pos : Pos}
theorem i_seq (ha : SE X T W C F a ia) : PI X tg a (tI X T W C F (.seq ia)) := by
  refine PI.weak (pi_seq ha.pe) fun σ H R ⟨ρ, st, as, s, r, p⟩ => ⟨ρ, st, as, s, r, ?_⟩
  refine Post.bind (R := Rep X.K) (show Post X.K T W (JOf X.K T) as H R ((evE C F ia ρ st).bind _) from p) fun x st1 as1 H1 v e1 s1 r1 p1 => ?_
  cases r1 with
  | @ref n l hl =>
    dsimp only at p1
    split at p1
    · rename_i ds0 h0
      obtain ⟨l', h1, _, vs0, h2, _⟩ := s1.at h0
      rw [hl] at h1
      cases h1
      refine .inl ⟨l, vs0, rfl, .inl (.inl h2), p1.here s1 (j_list rfl fun as2 H2 st2 ds e s hc => ?_)⟩
      have hl2 : as2.l[n]? = some l := by
        obtain ⟨m, q⟩ := e.pre
        rw [q, List.getElem?_append_left (List.getElem?_eq_some_iff.mp hl).1]
        exact hl
      have hc2 : st2[n]? = some (.lst ds) := by
        unfold curItems at hc
        split at hc
        · rename_i h; cases h
        · rename_i h
          cases h
          split at hc
          · cases hc; assumption
          · cases hc
      obtain ⟨l2, g1, _, vs, g2, g3⟩ := s.at hc2
      rw [hl2] at g1
      cases g1
      exact ⟨vs, .inl g2, g3⟩
    · exact p1.elim
  | @lst l vs ds h1 h2 h3 h4 =>
    refine .inl ⟨l, vs, rfl, .inl h1, Post.here (a := Src.st false ds) p1 s1 (j_list rfl fun as2 H2 st2 ds e s hc => ?_)⟩
    cases hc
    exact ⟨vs, rd_ext e h2 (fun ps z => by cases z) h1, h4.ext e s1.ok⟩
  | @tup l vs ds h1 h2 => exact .inr (.inl ⟨l, vs, rfl, h1, Post.here (a := Src.st false ds) p1 s1 (j_tup s1 h1 h2)⟩)
  | str z => exact .inr (.inr ⟨z, rfl, Post.here (a := Src.st false (z.cps.toList.map fun c => .str ⟨#[c]⟩)) p1 s1 (j_str z)⟩)
  | _ => exact p1.elim
theorem one_post {as : As} {H : Hp} {Q : List V → Hp → Prop} {ρ : Rho} {st : Hs} (h : Post X.K T W (Rep X.K) as H (fun v H' => Q [v] H') (evE C F ia ρ st)) : Post X.K T W (Reps X.K) as H Q (evEs C F (.cons ia .nil) ρ st) := by
  show Post X.K T W (Reps X.K) as H Q ((evE C F ia ρ st).bind fun d st => (evEs C F .nil ρ st).bind fun ds st => .ok (d :: ds) st)
  cases q : evE C F ia ρ st with
  | ok d st1 =>
    rw [q] at h
    intro as' H' vs e s r
    obtain ⟨v, rfl, r1⟩ := one_of (ds := []) r
    exact h as' H' v e s r1
  | exc c st1 =>
    rw [q] at h
    exact h
  | stuck =>
    rw [q] at h
    exact h
theorem i_enum {elts : List Expr} {kk : Nat} {tpos p : Pos} (ha : SE X T W C F a ia) (hg : Gl X "enumerate") (hm : X.mg "enumerate" = none) : PI X (.Tuple elts kk tpos) (.Call (.Name "enumerate" p) [a] [] pos) (tI X T W C F (.enum ia)) := by
  refine PI.weak (pi_enumA hg hm (s_cons ha s_nil) (star_of ha.st [] X.env)) fun σ H R ⟨ρ, st, as, s, r, p⟩ => ⟨ρ, st, as, s, r, one_post ?_⟩
  refine Post.bind (R := Rep X.K) (show Post X.K T W (JOf X.K T) as H R ((evE C F ia ρ st).bind _) from p) fun x st1 as1 H1 v e1 s1 r1 p1 => ?_
  cases r1 with
  | @ref n l hl =>
    dsimp only at p1
    split at p1
    · rename_i ds0 h0
      obtain ⟨l', h1, _, vs0, h2, _⟩ := s1.at h0
      rw [hl] at h1
      cases h1
      refine ⟨l, rfl, .inl ⟨vs0, .inl (.inl h2), p1.here s1 (j_enum rfl fun as2 H2 st2 ds e s hc => ?_)⟩⟩
      have hl2 : as2.l[n]? = some l := by
        obtain ⟨m, q⟩ := e.pre
        rw [q, List.getElem?_append_left (List.getElem?_eq_some_iff.mp hl).1]
        exact hl
      have hc2 : st2[n]? = some (.lst ds) := by
        unfold curItems at hc
        split at hc
        · rename_i h; cases h
        · rename_i h
          cases h
          split at hc
          · cases hc; assumption
          · cases hc
      obtain ⟨l2, g1, _, vs, g2, g3⟩ := s.at hc2
      rw [hl2] at g1
      cases g1
      exact ⟨vs, .inl g2, g3⟩
    · exact p1.elim
  | @lst l vs ds h1 h2 h3 h4 =>
    refine ⟨l, rfl, .inl ⟨vs, .inl h1, Post.here (a := Src.st true ds) p1 s1 (j_enum rfl fun as2 H2 st2 ds e s hc => ?_)⟩⟩
    cases hc
    exact ⟨vs, rd_ext e h2 (fun ps z => by cases z) h1, h4.ext e s1.ok⟩
  | @tup l vs ds h1 h2 => exact ⟨l, rfl, .inr ⟨vs, h1, Post.here (a := Src.st true ds) p1 s1 (j_enumT s1 h1 h2)⟩⟩
  | _ => exact p1.elim
theorem i_rng1 {p : Pos} (ha : SE X T W C F a ia) (hg : Gl X "range") (hm : X.mg "range" = none) : PI X tg (.Call (.Name "range" p) [a] [] pos) (tI X T W C F (.rng1 ia)) := by
  refine PI.weak (pi_range1 hg hm (s_cons ha s_nil) (star_of ha.st [] X.env)) fun σ H R ⟨ρ, st, as, s, r, p⟩ => ⟨ρ, st, as, s, r, one_post ?_⟩
  refine Post.bind (R := Rep X.K) (show Post X.K T W (JOf X.K T) as H R ((evE C F ia ρ st).bind _) from p) fun x st1 as1 H1 v e1 s1 r1 p1 => ?_
  cases r1 with
  | int j =>
    dsimp only at p1
    split at p1
    · rename_i hj
      obtain ⟨h1, h2⟩ := bnd hj
      have h1 := of_decide_eq_true h1
      have h2 := of_decide_eq_true h2
      exact ⟨j, rfl, by omega, by omega, p1.here s1 (j_rng 0 _)⟩
    · exact p1.elim
  | _ => exact p1.elim
theorem i_rng2 {p : Pos} (ha : SE X T W C F a ia) (hb : SE X T W C F b ib) (hg : Gl X "range") (hm : X.mg "range" = none) : PI X tg (.Call (.Name "range" p) [a, b] [] pos) (tI X T W C F (.rng2 ia ib)) := by
  have hs2 : starEach [b] X.env = [(false, eval b X.env)] := star_of hb.st [] X.env
  have hs : starEach [a, b] X.env = [(false, eval a X.env), (false, eval b X.env)] := by rw [star_of ha.st, hs2]
  refine PI.weak (pi_range2 hg hm (s_cons ha (s_cons hb s_nil)) hs hs2) fun σ H R ⟨ρ, st, as, s, r, p⟩ => ⟨ρ, st, as, s, r, ?_⟩
  show Post X.K T W (Reps X.K) as H _ ((evE C F ia ρ st).bind fun d st => (evEs C F (.cons ib .nil) ρ st).bind fun ds st => .ok (d :: ds) st)
  have p : Post X.K T W (JOf X.K T) as H R ((evE C F ia ρ st).bind fun x st => (evE C F ib ρ st).bind fun y st => rng2V x y st) := p
  cases q1 : evE C F ia ρ st with
  | ok d st1 =>
    rw [q1] at p
    have p : Post X.K T W (JOf X.K T) as H R ((evE C F ib ρ st1).bind fun y st => rng2V d y st) := p
    show Post X.K T W (Reps X.K) as H _ (((evE C F ib ρ st1).bind fun d st => (evEs C F .nil ρ st).bind fun ds st => .ok (d :: ds) st).bind fun ds st => .ok (d :: ds) st)
    cases q2 : evE C F ib ρ st1 with
    | ok y st2 =>
      rw [q2] at p
      intro as' H' vs e s' r'
      obtain ⟨v, u, rfl, r1, r2⟩ := two_of r'
      have p : Post X.K T W (JOf X.K T) as H R (rng2V d y st2) := p
      cases r1 with
      | int i =>
        cases r2 with
        | int j =>
          unfold rng2V at p
          dsimp only at p
          split at p
          · rename_i hj
            obtain ⟨hj, h4⟩ := bnd hj
            obtain ⟨hj, h3⟩ := bnd hj
            obtain ⟨h1, h2⟩ := bnd hj
            have h1 := of_decide_eq_true h1
            have h2 := of_decide_eq_true h2
            have h3 := of_decide_eq_true h3
            have h4 := of_decide_eq_true h4
            exact ⟨i, j, rfl, ⟨by omega, by omega, by omega, by omega⟩, p as' H' _ e s' (j_rng _ _)⟩
          · exact p.elim
        | _ => exact p.elim
      | _ => exact p.elim
    | exc c st2 =>
      rw [q2] at p
      exact p
    | stuck =>
      rw [q2] at p
      exact p
  | exc c st1 =>
    rw [q1] at p
    exact p
  | stuck =>
    rw [q1] at p
    exact p
end
end Rf

/-! Rf: statements. -/
namespace Rf
open PySem PySem.Spec PyProof.Rows L2
section
variable (K : PySem.W.Frag) (T : List (Addr × Str)) (W : Str → Hp → Prop)
def PostS (D : Ends) (as : As) (H : Hp) : SR → Prop
  | .next ρ' st' => ∀ as' H' σ', Ext as H as' H' → Sim K T st' as' H' → REnv K as' H' ρ' σ' → D.nx σ' H'
  | .ret d st' => ∀ as' H' v, Ext as H as' H' → Sim K T st' as' H' → Rep K as' H' d v → D.rt v H'
  | .exc c st' => ∀ as' H', Ext as H as' H' → Sim K T st' as' H' → W c H'
  | .stuck => False
def tSt (ev : Rho → Hs → SR) : TS := fun D σ H => ∃ ρ st as, Sim K T st as H ∧ REnv K as H ρ σ ∧ PostS K T W D as H (ev ρ st)
end
section
variable {K : PySem.W.Frag} {T : List (Addr × Str)} {W : Str → Hp → Prop} {as as1 : As} {H H1 : Hp} {D D' : Ends}
theorem PostS.shift {r : SR} (e : Ext as H as1 H1) (h : PostS K T W D as H r) : PostS K T W D as1 H1 r := by
  cases r with
  | next ρ st => exact fun as' H' b e' s r => h as' H' b (e.trans e') s r
  | ret d st => exact fun as' H' b e' s r => h as' H' b (e.trans e') s r
  | exc c st => exact fun as' H' e' s => h as' H' (e.trans e') s
  | stuck => exact h
theorem PostS.here {ρ : Rho} {σ : L2.St} {st : Hs} (h : PostS K T W D as H (.next ρ st)) (s : Sim K T st as H) (r : REnv K as H ρ σ) : D.nx σ H := h as H σ (Ext.refl _ _) s r
/-- an evaluation within a statement -/
theorem PostS.bind {α β : Type} {R : As → Hp → α → β → Prop} {Q1 : β → Hp → Prop} {r : Res α} {k : α → Hs → SR} (h : PostS K T W D as H (r.sr k))
    (hk : ∀ a st1 as1 H1 b, Ext as H as1 H1 → Sim K T st1 as1 H1 → R as1 H1 a b → PostS K T W D as1 H1 (k a st1) → Q1 b H1) : Post K T W R as H Q1 r := by
  cases r with
  | ok a st => exact fun as' H' b e s r => hk a st as' H' b e s r (PostS.shift e h)
  | exc c st => exact h
  | stuck => exact h
theorem PostS.bindL {Q1 : VK} {r : Res (List Rf.D)} {k : List Rf.D → Hs → SR} (h : PostS K T W D' as H (r.sr k))
    (hk : ∀ ds st1 as1 H1 p vs, Ext as H as1 H1 → Sim K T st1 as1 H1 → Reps K as1 H1 ds vs → H1 p = none → PostS K T W D' as1 H1 (k ds st1) → Q1 (.ref p) (upd H1 p (.lst vs))) : PostL K T W as H Q1 r := by
  cases r with
  | ok a st => exact fun as' H' p b e s r n => hk a st as' H' p b e s r n (PostS.shift e h)
  | exc c st => exact h
  | stuck => exact h
end
theorem cur_dyn {st : Hs} {en : Bool} {n : Nat} {ds : List D} (h : st[n]? = some (.lst ds)) : curItems st (.dyn en n) = some ds := by simp [curItems, h]
theorem PS.weak {X : Cx} {e : Stmt} {t t' : TS} (h : PS X e t) (k : ∀ D σ H, t' D σ H → t D σ H) : PS X e t' := ⟨fun pins s σ H D I q => h.run pins s σ H D I (k D σ H q)⟩
theorem PSs.weak {X : Cx} {e : List Stmt} {t t' : TS} (h : PSs X e t) (k : ∀ D σ H, t' D σ H → t D σ H) : PSs X e t' := ⟨fun pins s σ H D I q => h.run pins s σ H D I (k D σ H q)⟩
section
variable (X : Cx) (T : List (Addr × Str)) (W : Str → Hp → Prop) (C : Calls) (F : Nat)
abbrev tS (s : S) : TS := tSt X.K T W (evS C F s)
abbrev tSs (ss : Ss) : TS := tSt X.K T W (evSs C F ss)
end
section
variable {X : Cx} {T : List (Addr × Str)} {W : Str → Hp → Prop} {C : Calls} {F : Nat} {tg e a b c : Expr} {i ia ib ic : E} {pos : Pos} {st : Stmt} {sts : List Stmt} {s : S} {ss : Ss}
theorem ss_nil : PSs X [] (tSs X T W C F .nil) := PSs.weak pss_nil fun D σ H ⟨ρ, st, as, s, r, p⟩ => p.here s r
theorem ss_cons (h : PS X st (tS X T W C F s)) (hs : PSs X sts (tSs X T W C F ss)) : PSs X (st :: sts) (tSs X T W C F (.cons s ss)) := by
  refine PSs.weak (pss_cons h hs) fun D σ H ⟨ρ, st, as, s', r, p⟩ => ⟨ρ, st, as, s', r, ?_⟩
  have p : PostS X.K T W D as H (match evS C F s ρ st with
    | .next ρ st => evSs C F ss ρ st
    | r => r) := p
  cases q : evS C F s ρ st with
  | next ρ1 st1 =>
    rw [q] at p
    exact fun as' H' σ' e1 s1 r1 => ⟨ρ1, st1, as', s1, r1, PostS.shift e1 p⟩
  | ret d st1 =>
    rw [q] at p
    exact p
  | exc c st1 =>
    rw [q] at p
    exact p
  | stuck =>
    rw [q] at p
    exact p
theorem ss_expr (h : SE X T W C F e i) (hn : nComp e = true) : PS X (.Expr e pos) (tS X T W C F (.expr i)) :=
  PS.weak (ps_expr h.pe (swap_of hn none _ _)) fun D σ H ⟨ρ, st, as, s, r, p⟩ => ⟨ρ, st, as, s, r, PostS.bind (R := Rep X.K) (show PostS X.K T W D as H ((evE C F i ρ st).sr _) from p) fun x st1 as1 H1 v e1 s1 r1 p1 => p1.here s1 (r.ext e1 s.ok)⟩
theorem ss_ret (h : SE X T W C F e i) : PS X (.Return (some e) pos) (tS X T W C F (.ret i)) :=
  PS.weak (ps_ret h.pe) fun D σ H ⟨ρ, st, as, s, r, p⟩ => ⟨ρ, st, as, s, r, PostS.bind (R := Rep X.K) (show PostS X.K T W D as H ((evE C F i ρ st).sr _) from p) fun x st1 as1 H1 v e1 s1 r1 p1 => p1 as1 H1 v (Ext.refl _ _) s1 r1⟩
theorem ss_if {as bs : List Stmt} {sa sb : Ss} (hc : SE X T W C F c ic) (ha : PSs X as (tSs X T W C F sa)) (hb : PSs X bs (tSs X T W C F sb)) : PS X (.If c as bs pos) (tS X T W C F (.ife ic sa sb)) := by
  refine PS.weak (ps_if hc.pt ha hb) fun D σ H ⟨ρ, st, as, s, r, p⟩ => ⟨ρ, st, as, s, r, ?_⟩
  have p : PostS X.K T W D as H ((evE C F ic ρ st).sr fun x st => (match x with
    | .bl true => evSs C F sa ρ st
    | .bl false => evSs C F sb ρ st
    | _ => .stuck)) := p
  show Post X.K T W REq as H _ ((evE C F ic ρ st).bind fun x st => (match x with
    | .bl b => .ok b st
    | _ => .stuck))
  cases z : evE C F ic ρ st with
  | ok d st1 =>
    rw [z] at p
    cases d with
    | bl k =>
      intro as1 H1 k' e1 s1 hk
      cases hk
      cases k with
      | true => exact iteT ⟨ρ, st1, as1, s1, r.ext e1 s.ok, PostS.shift e1 p⟩
      | false => exact iteF ⟨ρ, st1, as1, s1, r.ext e1 s.ok, PostS.shift e1 p⟩
    | _ => exact p.elim
  | exc c' st1 =>
    rw [z] at p
    exact p
  | stuck =>
    rw [z] at p
    exact p

/-! ### target = value -/
theorem ss_asg {t : Tg} (h : SE X T W C F e i) (hg : SG X T W C F tg t) (hn : nComp e = true) (hw : swappedStores [tg] e X.env = pure none) : PS X (.Assign [tg] e pos) (tS X T W C F (.asg t i)) := by
  refine PS.weak (ps_asg h.pe hg.pg (swap_of hn (some tg) _ _) hw (by rw [asgn_of hg.st]; rfl)) fun D σ H ⟨ρ, st, as, s, r, p⟩ => ⟨ρ, st, as, s, r, ?_⟩
  refine PostS.bind (R := Rep X.K) (show PostS X.K T W D as H ((evE C F i ρ st).sr _) from p) fun x st1 as1 H1 v e1 s1 r1 p1 => ?_
  refine ⟨ρ, st1, as1, x, s1, r.ext e1 s.ok, r1, ?_⟩
  exact PostS.bind (R := RG X.K t.names σ) p1 fun ρ2 st2 as2 H2 σ2 e2 s2 r2 p2 => p2.here s2 r2.1
/-- name = a new list -/
theorem asgL_of {l : L} {n : Nat} {mu : Bool} (D : Ends) (σ : L2.St) (H : Hp) (h : tS X T W C F (.asgL n mu l) D σ H) : tAsg (tL X T W C F l) (gName n) D σ H := by
  obtain ⟨ρ, st, as, s, r, p⟩ := h
  refine ⟨ρ, st, as, s, r, ?_⟩
  have p : PostS X.K T W D as H ((evL C F l ρ st).sr fun ds st => if mu = true then .next (setI ρ n (.ref st.length)) (st ++ [.lst ds]) else .next (setI ρ n (.lst ds)) st) := p
  refine PostS.bindL p fun ds st1 as1 H1 q vs e1 s1 r1 nq p1 => ?_
  cases mu with
  | true =>
    have p1 : PostS X.K T W D as1 H1 (.next (setI ρ n (.ref st1.length)) (st1 ++ [.lst ds])) := p1
    refine p1 (as1.add q) _ _ (Ext.freshA nq) (s1.alloc nq ⟨vs, upd_same, r1.ext (Ext.freshA nq) s1.ok⟩) (REnv.set ((r.ext e1 s.ok).ext (Ext.freshA nq) s1.ok) n (.ref ?_))
    rw [← s1.len]
    unfold As.add
    dsimp only
    rw [List.getElem?_append_right (Nat.le_refl _)]
    simp
  | false =>
    have p1 : PostS X.K T W D as1 H1 (.next (setI ρ n (.lst ds)) st1) := p1
    exact p1 as1 _ _ (Ext.fresh nq) (s1.fresh nq) (REnv.set ((r.ext e1 s.ok).ext (Ext.fresh nq) s1.ok) n (.lst (.inl upd_same) (notin_new s1 nq) (notin_res s1 nq) (r1.ext (Ext.fresh nq) s1.ok)))
theorem ss_asgL {l : L} {n : Nat} {mu : Bool} {x : Str} {p' : Pos} (h : SL X T W C F e l) (hN : X.N.Nodup) (hi : X.N[n]? = some x) (hx : Loc X.env.scope x) (hf : X.fn x = true ∨ X.env.scope.names.lookup x = some .local)
    (hs : swapsWith e (some (.Name x p')) pos.line X.env = pure false) : PS X (.Assign [.Name x p'] e pos) (tS X T W C F (.asgL n mu l)) :=
  PS.weak (ps_asg h.pe (pg_name hN hi hx hf) hs rfl rfl) fun D σ H h => asgL_of D σ H h

/-! ### a, b = x, y: stored from the right -/
theorem two_es {as : As} {H : Hp} {D : Ends} {ρ : Rho} {st : Hs} {Q : List V → Hp → Prop} {is : Es} {k : List Rf.D → Hs → SR} (p : PostS X.K T W D as H ((evEs C F is ρ st).sr k))
    (hk : ∀ ds st1 as1 H1 vs, Ext as H as1 H1 → Sim X.K T st1 as1 H1 → Reps X.K as1 H1 ds vs → PostS X.K T W D as1 H1 (k ds st1) → Q vs H1) : Post X.K T W (Reps X.K) as H Q (evEs C F is ρ st) := PostS.bind p hk
theorem ss_par {x y : Str} {n m : Nat} {px py pt pt2 : Pos} {kt k2 : Nat} {is : Es} (hc : X.calm = true) (hN : X.N.Nodup) (hi : X.N[n]? = some x) (hj : X.N[m]? = some y) (hij : n ≠ m)
    (hx : X.env.scope.names.lookup x = some .local) (hy : X.env.scope.names.lookup y = some .local) (ha : SEs X T W C F [a, b] is)
    (hw : swappedStores [.Tuple [.Name x px, .Name y py] kt pt] (.Tuple [a, b] k2 pt2) X.env = pure (some [x, y])) :
    PS X (.Assign [.Tuple [.Name x px, .Name y py] kt pt] (.Tuple [a, b] k2 pt2) pos) (tS X T W C F (.asg (.tup (.cons (.name n) (.cons (.name m) .nil))) (.tup is))) := by
  refine PS.weak (ps_par hc hN hi hj hij hx hy ha.pa hw) fun D σ H ⟨ρ, st, as, s, r, p⟩ => ⟨ρ, st, as, s, r, ?_⟩
  have p : PostS X.K T W D as H (((evEs C F is ρ st).bind fun ds st => .ok (.tup ds) st).sr fun d st => (evTg C F (.tup (.cons (.name n) (.cons (.name m) .nil))) d ρ st).sr fun ρ st => .next ρ st) := p
  cases q : evEs C F is ρ st with
  | ok ds st1 =>
    rw [q] at p
    intro as' H' vs e1 s1 r1
    have hl := ha.len ρ st ds st1 q
    cases r1 with
    | nil => simp at hl
    | @cons d1 v1 ds vs a1 a2 =>
      cases a2 with
      | nil => simp at hl
      | @cons d2 v2 ds vs a2 a3 =>
        cases a3 with
        | nil =>
          refine ⟨v1, v2, rfl, ?_⟩
          exact PostS.here (ρ := setI (setI ρ n d1) m d2) (PostS.shift e1 p) s1 (REnv.set (REnv.set (r.ext e1 s.ok) n a1) m a2)
        | cons _ _ => simp at hl
  | exc c st1 =>
    rw [q] at p
    exact p
  | stuck =>
    rw [q] at p
    exact p
theorem ss_par3 {x y z : Str} {n m l : Nat} {px py pz pt pt2 : Pos} {kt k2 : Nat} {is : Es} (hc : X.calm = true) (hN : X.N.Nodup) (hi : X.N[n]? = some x) (hj : X.N[m]? = some y) (hl3 : X.N[l]? = some z) (hij : n ≠ m) (hil : n ≠ l) (hjl : m ≠ l)
    (hx : X.env.scope.names.lookup x = some .local) (hy : X.env.scope.names.lookup y = some .local) (hz : X.env.scope.names.lookup z = some .local) (ha : SEs X T W C F [a, b, c] is)
    (hw : swappedStores [.Tuple [.Name x px, .Name y py, .Name z pz] kt pt] (.Tuple [a, b, c] k2 pt2) X.env = pure (some [x, y, z])) :
    PS X (.Assign [.Tuple [.Name x px, .Name y py, .Name z pz] kt pt] (.Tuple [a, b, c] k2 pt2) pos) (tS X T W C F (.asg (.tup (.cons (.name n) (.cons (.name m) (.cons (.name l) .nil)))) (.tup is))) := by
  refine PS.weak (ps_par3 hc hN hi hj hl3 hij hil hjl hx hy hz ha.pa hw) fun D σ H ⟨ρ, st, as, s, r, p⟩ => ⟨ρ, st, as, s, r, ?_⟩
  have p : PostS X.K T W D as H (((evEs C F is ρ st).bind fun ds st => .ok (.tup ds) st).sr fun d st => (evTg C F (.tup (.cons (.name n) (.cons (.name m) (.cons (.name l) .nil)))) d ρ st).sr fun ρ st => .next ρ st) := p
  cases q : evEs C F is ρ st with
  | ok ds st1 =>
    rw [q] at p
    intro as' H' vs e1 s1 r1
    have hl := ha.len ρ st ds st1 q
    cases r1 with
    | nil => simp at hl
    | @cons d1 v1 ds vs a1 a2 =>
      cases a2 with
      | nil => simp at hl
      | @cons d2 v2 ds vs a2 a3 =>
        cases a3 with
        | nil => simp at hl
        | @cons d3 v3 ds vs a3 a4 =>
          cases a4 with
          | nil =>
            refine ⟨v1, v2, v3, rfl, ?_⟩
            exact PostS.here (ρ := setI (setI (setI ρ n d1) m d2) l d3) (PostS.shift e1 p) s1 (REnv.set (REnv.set (REnv.set (r.ext e1 s.ok) n a1) m a2) l a3)
          | cons _ _ => simp at hl
  | exc c st1 =>
    rw [q] at p
    exact p
  | stuck =>
    rw [q] at p
    exact p

/-! ### while -/
theorem ss_while {bs : List Stmt} {sb : Ss} (hp : PassesOwn (model X.prog X.w) X.A X.env X.xe) (hc : SE X T W C F c ic) (hb : PSs X bs (tSs X T W C F sb)) : PS X (.While c bs [] pos) (tS X T W C F (.while_ ic sb)) := by
  refine PS.weak (ps_while hp hc.pt hb) fun D σ H ⟨ρ, st, as, s, r, p⟩ => ?_
  have p : PostS X.K T W D as H (whileN (evE C F ic) (evSs C F sb) F ρ st) := p
  refine ⟨fun m σ' H' => ∃ ρ' st' as', Sim X.K T st' as' H' ∧ REnv X.K as' H' ρ' σ' ∧ PostS X.K T W D as' H' (whileN (evE C F ic) (evSs C F sb) m ρ' st'), ⟨F, ρ, st, as, s, r, p⟩, ?_⟩
  rintro m σ1 H1 ⟨ρ1, st1, as1, s1, r1, p1⟩
  cases m with
  | zero => exact p1.elim
  | succ f =>
    refine ⟨ρ1, st1, as1, s1, r1, ?_⟩
    show Post X.K T W REq as1 H1 _ ((evE C F ic ρ1 st1).bind fun x st => (match x with
      | .bl b => .ok b st
      | _ => .stuck))
    unfold whileN at p1
    cases z : evE C F ic ρ1 st1 with
    | ok d st2 =>
      rw [z] at p1
      cases d with
      | bl k =>
        intro as2 H2 k' e2 s2 hk
        cases hk
        cases k with
        | true =>
          refine iteT ⟨_, fun σ' H' hN => hN, ρ1, st2, as2, s2, r1.ext e2 s1.ok, ?_⟩
          dsimp only at p1
          cases z2 : evSs C F sb ρ1 st2 with
          | next ρ3 st3 =>
            rw [z2] at p1
            intro as3 H3 σ3 e3 s3 r3
            exact ⟨f, Nat.lt_succ_self _, ρ3, st3, as3, s3, r3, PostS.shift (e2.trans e3) p1⟩
          | ret d st3 =>
            rw [z2] at p1
            exact PostS.shift e2 p1
          | exc c st3 =>
            rw [z2] at p1
            exact PostS.shift e2 p1
          | stuck =>
            rw [z2] at p1
            exact p1.elim
        | false => exact iteF (p1 as2 H2 σ1 e2 s2 (r1.ext e2 s1.ok))
      | _ => exact p1.elim
    | exc c' st1 =>
      rw [z] at p1
      exact p1
    | stuck =>
      rw [z] at p1
      exact p1.elim

/-! ### for -/
theorem for_of {it : Rf.It} {t : Tg} {sb : Ss} (D : Ends) (σ : L2.St) (H : Hp) (h : tS X T W C F (.for_ t it sb) D σ H) : tFor (tI X T W C F it) (tG X T W C F t) (tSs X T W C F sb) D σ H := by
  obtain ⟨ρ, st, as, s, r, p⟩ := h
  let bd : Rf.D → Rho → Hs → SR := fun d ρ st => (evTg C F t d ρ st).sr fun ρ st => evSs C F sb ρ st
  have p : PostS X.K T W D as H ((evIt C F it ρ st).sr fun src st => (match src with
    | .st en ds => forS en bd ds 0 ρ st
    | .dyn en n => forD en bd n F 0 ρ st)) := p
  refine ⟨ρ, st, as, s, r, ?_⟩
  refine PostS.bind p fun src st1 as1 H1 J e1 s1 j1 p1 => ?_
  -- one turn
  have turn : ∀ (st2 : Hs) (as2 : As) (H2 : Hp) (σ2 : L2.St) (ρ2 : Rho) (x : V) (d : Rf.D) (N : L2.St → Hp → Prop), Sim X.K T st2 as2 H2 → REnv X.K as2 H2 ρ2 σ2 → Rep X.K as2 H2 d x →
      PostS X.K T W { D with nx := N, ct := N, bk := D.nx } as2 H2 (bd d ρ2 st2) →
      tG X T W C F t x σ2 H2 fun σ3 H3 => tSs X T W C F sb { D with nx := N, ct := N, bk := D.nx } σ3 H3 := by
    intro st2 as2 H2 σ2 ρ2 x d N s2 r2 rx pb
    refine ⟨ρ2, st2, as2, d, s2, r2, rx, ?_⟩
    exact PostS.bind (R := RG X.K t.names σ2) pb fun ρ3 st3 as3 H3 σ3 e3 s3 r3 p3 => ⟨ρ3, st3, as3, s3, r3.1, p3⟩
  cases src with
  | st en ds =>
    refine ⟨fun i m σ2 H2 => ∃ ρ2 st2 as2, Ext as1 H1 as2 H2 ∧ Sim X.K T st2 as2 H2 ∧ REnv X.K as2 H2 ρ2 σ2 ∧ i ≤ ds.length ∧ m = ds.length - i ∧ PostS X.K T W D as2 H2 (forS en bd (ds.drop i) i ρ2 st2), ⟨ds.length, ρ, st1, as1, Ext.refl _ _, s1, r.ext e1 s.ok, Nat.zero_le _, rfl, p1⟩, ?_⟩
    rintro i m σ2 H2 ⟨ρ2, st2, as2, e2, s2, r2, hi, hm, p2⟩
    obtain ⟨j2, j3⟩ := j1 as2 H2 st2 ds i e2 s2 rfl
    by_cases hlt : i < ds.length
    · refine .inr ?_
      have hd : ds[i]? = some ds[i] := List.getElem?_eq_getElem hlt
      obtain ⟨g1, g2⟩ := j3 _ hd
      refine ⟨g1, fun σ' H' => ∃ m', m' < m ∧ _, fun σ' H' h => h, fun x H3 hy => ?_⟩
      obtain ⟨e3, s3, rx⟩ := g2 x H3 hy
      refine turn st2 as2 H3 σ2 ρ2 x _ _ s3 (r2.ext e3 s2.ok) rx ?_
      have ed : ds.drop i = ds[i] :: ds.drop (i + 1) := List.drop_eq_getElem_cons hlt
      rw [ed] at p2
      unfold forS at p2
      show PostS X.K T W _ as2 H3 (bd (itemAt en i ds[i]) ρ2 st2)
      cases z : bd (itemAt en i ds[i]) ρ2 st2 with
      | next ρ4 st4 =>
        rw [z] at p2
        intro as4 H4 σ4 e4 s4 r4
        exact ⟨ds.length - (i + 1), by omega, ρ4, st4, as4, (e2.trans e3).trans e4, s4, r4, by omega, rfl, PostS.shift (e3.trans e4) p2⟩
      | ret d st4 =>
        rw [z] at p2
        exact PostS.shift e3 p2
      | exc c st4 =>
        rw [z] at p2
        exact PostS.shift e3 p2
      | stuck =>
        rw [z] at p2
        exact p2.elim
    · have ei : i = ds.length := by omega
      refine .inl ⟨j2 (by omega) (.inl ei), ?_⟩
      rw [ei, List.drop_length] at p2
      exact p2.here s2 r2
  | dyn en n =>
    refine ⟨fun i m σ2 H2 => ∃ ρ2 st2 as2, Ext as1 H1 as2 H2 ∧ Sim X.K T st2 as2 H2 ∧ REnv X.K as2 H2 ρ2 σ2 ∧ PostS X.K T W D as2 H2 (forD en bd n m i ρ2 st2), ⟨F, ρ, st1, as1, Ext.refl _ _, s1, r.ext e1 s.ok, p1⟩, ?_⟩
    rintro i m σ2 H2 ⟨ρ2, st2, as2, e2, s2, r2, p2⟩
    cases m with
    | zero => exact p2.elim
    | succ f =>
      unfold forD at p2
      split at p2
      · rename_i ds hds
        obtain ⟨j2, j3⟩ := j1 as2 H2 st2 ds i e2 s2 (cur_dyn hds)
        split at p2
        · rename_i hn
          refine .inl ⟨j2 (List.getElem?_eq_none_iff.mp hn) (.inr ⟨_, _, rfl⟩), p2.here s2 r2⟩
        · rename_i d hd
          refine .inr ?_
          obtain ⟨g1, g2⟩ := j3 _ hd
          refine ⟨g1, fun σ' H' => ∃ m', m' < f + 1 ∧ _, fun σ' H' h => h, fun x H3 hy => ?_⟩
          obtain ⟨e3, s3, rx⟩ := g2 x H3 hy
          refine turn st2 as2 H3 σ2 ρ2 x _ _ s3 (r2.ext e3 s2.ok) rx ?_
          show PostS X.K T W _ as2 H3 (bd (itemAt en i d) ρ2 st2)
          cases z : bd (itemAt en i d) ρ2 st2 with
          | next ρ4 st4 =>
            rw [z] at p2
            intro as4 H4 σ4 e4 s4 r4
            exact ⟨f, Nat.lt_succ_self _, ρ4, st4, as4, (e2.trans e3).trans e4, s4, r4, PostS.shift (e3.trans e4) p2⟩
          | ret d st4 =>
            rw [z] at p2
            exact PostS.shift e3 p2
          | exc c st4 =>
            rw [z] at p2
            exact PostS.shift e3 p2
          | stuck =>
            rw [z] at p2
            exact p2.elim
      · exact p2.elim
theorem ss_for {it : Rf.It} {t : Tg} {sb : Ss} {iter : Expr} {bs : List Stmt} (hp : PassesOwn (model X.prog X.w) X.A X.env X.xe) (hc : X.calm = true) (hi : PI X tg iter (tI X T W C F it)) (hg : SG X T W C F tg t) (hb : PSs X bs (tSs X T W C F sb))
    (hs : ∀ x, foldedSetIterable iter X.env x = pure x) : PS X (.For tg iter bs [] pos) (tS X T W C F (.for_ t it sb)) :=
  PS.weak (ps_for hp hc hi hg.pg hb hs) fun D σ H h => for_of D σ H h

/-! ### l.append(x) -/
theorem ss_append {ap cp : Pos} (ha : SE X T W C F a ia) (hb : SE X T W C F b ib) (ho : okBase a = true) (hl : (ap.endLine == cp.line) = true) : PS X (.Expr (.Call (.Attribute a "append" ap) [b] [] cp) pos) (tS X T W C F (.append ia ib)) := by
  have hst : starEach [b] X.env = (false, eval b X.env) :: starEach [] X.env := star_of hb.st [] X.env
  have hm : MtR X "list.append" rAppend := mt_append
  refine PS.weak (ps_expr (pe_bm (T := "list") (name := "append") (id := "list.append") PySem.F.plainAttrs_list PySem.F.slot_list_append (by with_unfolding_all rfl) hm ha.pe (s_cons hb s_nil) (hbase := base_of ho _ _ _) (hfew := ?_) (hline := hl) (hs := hst) (hplain := stars_any rfl)) (swap_of rfl none _ _)) fun D σ H ⟨ρ, st, as, s, r, p⟩ => ?_
  · rw [stars_all (by simp [hb.st])]
    rfl
  have p : PostS X.K T W D as H ((evE C F ia ρ st).sr fun x st => (match x with
    | .ref n => (match st[n]? with
      | some (.lst _) => (evE C F ib ρ st).sr fun d st => (match st[n]? with
        | some (.lst ds) => if lenOk ds = true then .next ρ (st.set n (.lst (ds ++ [d]))) else .stuck
        | _ => .stuck)
      | _ => .stuck)
    | _ => .stuck)) := p
  refine ⟨ρ, st, as, s, r, PostS.bind (R := Rep X.K) p fun x st1 as1 H1 v e1 s1 r1 p1 => ?_⟩
  cases r1 with
  | @ref n l hl1 =>
    dsimp only at p1
    split at p1
    · rename_i ds0 h0
      obtain ⟨l', h1, _, vs0, h2, _⟩ := s1.at h0
      rw [hl1] at h1
      cases h1
      refine ⟨.inl ⟨rfl, vs0, .inl (.inl h2)⟩, ρ, st1, as1, s1, r.ext e1 s.ok, one_post ?_⟩
      refine PostS.bind (R := Rep X.K) p1 fun d st2 as2 H2 u e2 s2 r2 p2 => ?_
      split at p2
      · rename_i ds hds
        split at p2
        · rename_i hlen
          have hl2 : as2.l[n]? = some l := by
            obtain ⟨m, q⟩ := e2.pre
            rw [q, List.getElem?_append_left (List.getElem?_eq_some_iff.mp hl1).1]
            exact hl1
          obtain ⟨l2, g1, gm, vs, g2, g3⟩ := s2.at hds
          rw [hl2] at g1
          cases g1
          have ex : Ext as2 H2 as2 (upd H2 l (.lst (vs ++ [u]))) := Ext.write s2.ok gm
          have hln := lenOk_le hlen
          refine ⟨l, vs, u, rfl, rfl, g2, by rw [sizeLine_eq, ← g3.length]; omega, ?_⟩
          exact p2 as2 _ σ ex (s2.write hl2 ⟨_, upd_same, (g3.append (.cons r2 .nil)).ext ex s2.ok⟩) (((r.ext e1 s.ok).ext e2 s1.ok).ext ex s2.ok)
        · exact p2.elim
      · exact p2.elim
    · exact p1.elim
  | _ => exact p1.elim
end
end Rf

/-! Rf: list comprehensions. -/
namespace Rf
open PySem PySem.Spec PyProof.Rows L2
section
variable {K : PySem.W.Frag} {T : List (Addr × Str)} {as as' : As} {H H' : Hp} {Dl : Addr}
/-- a list that is being made is changed, or goes -/
structure Off (Dl : Addr) (as as' : As) (H H' : Hp) : Prop where
  mem : Dl ∈ as.r
  lst : ∃ vs, H Dl = some (.lst vs)
  same : ∀ b, b ≠ Dl → H' b = H b
  l : as'.l = as.l
  r : ∀ a ∈ as'.r, a ∈ as.r
theorem Off.rd {a : Addr} {o : HO} (f : Off Dl as as' H H') (h : Rd H a o) (n : a ≠ Dl) : Rd H' a o := by
  rcases h with h | ⟨ob, h⟩
  · exact .inl ((f.same a n).trans h)
  · exact .inr ⟨ob, (f.same a n).trans h⟩
theorem Off.sq {a : Addr} {vs : List V} (f : Off Dl as as' H H') (h : SqT K H a vs) : SqT K H' a vs := by
  rcases h with h | h
  · refine .inl (f.rd h fun e => ?_)
    obtain ⟨ws, hw⟩ := f.lst
    rw [← e] at hw
    rcases h with h | ⟨ob, h⟩ <;> rw [h] at hw <;> cases hw
  · exact .inr h
theorem Off.sqf {a : Addr} {vs : List V} (f : Off Dl as as' H H') (h : SqF K as H a vs) : SqF K as' H' a vs := by
  rcases h with ⟨o, h⟩ | h | ⟨h, n, nr⟩
  · refine .inl ⟨o, (f.same a fun e => ?_).trans h⟩
    obtain ⟨ws, hw⟩ := f.lst
    rw [← e, h] at hw
    cases hw
  · exact .inr (.inl h)
  · exact .inr (.inr ⟨(f.same a fun e => nr (by rw [e]; exact f.mem)).trans h, by rw [f.l]; exact n, fun hr => nr (f.r _ hr)⟩)
mutual
theorem Rep.off (f : Off Dl as as' H H') : ∀ {d : D} {v : V}, Rep K as H d v → Rep K as' H' d v
  | _, _, .non => .non
  | _, _, .bl b => .bl b
  | _, _, .int i => .int i
  | _, _, .str x => .str x
  | _, _, .tup h r => .tup (f.sq h) (Reps.off f r)
  | _, _, .lst h n nr r => .lst (f.rd h fun e => nr (by rw [e]; exact f.mem)) (by rw [f.l]; exact n) (fun hr => nr (f.r _ hr)) (Reps.off f r)
  | _, _, .ref h => .ref (by rw [f.l]; exact h)
  | _, _, .kl h r => .kl (f.sqf h) (Reps.off f r)
theorem Reps.off (f : Off Dl as as' H H') : ∀ {d : List D} {v : List V}, Reps K as H d v → Reps K as' H' d v
  | _, _, .nil => .nil
  | _, _, .cons a b => .cons (Rep.off f a) (Reps.off f b)
end
theorem FReps.off (f : Off Dl as as' H H') : ∀ {d : List (Str × D)} {v : List (Str × V)}, FReps K as H d v → FReps K as' H' d v
  | _, _, .nil => .nil
  | _, _, .cons a b => .cons (Rep.off f a) (FReps.off f b)
theorem Sim.off {st : Hs} (s : Sim K T st as H) (f : Off Dl as as' H H') (hn : as'.r.Nodup) (hd : Dl ∈ as'.r → ∃ vs, H' Dl = some (.lst vs)) : Sim K T st as' H' where
  len := by rw [f.l]; exact s.len
  nd := by rw [f.l]; exact s.nd
  rn := hn
  rs := fun a ha => by
    obtain ⟨h1, vs, h2⟩ := s.rs a (f.r a ha)
    refine ⟨by rw [f.l]; exact h1, ?_⟩
    by_cases e : a = Dl
    · subst e
      exact hd ha
    · exact ⟨vs, (f.same a e).trans h2⟩
  obj := fun n o a h1 h2 => by
    rw [f.l] at h2
    have hq := s.obj n o a h1 h2
    have ne : a ≠ Dl := fun e => (s.rs Dl f.mem).1 (by rw [← e]; exact List.mem_of_getElem? h2)
    cases o with
    | lst ds =>
      obtain ⟨vs, g1, g2⟩ := hq
      exact ⟨vs, (f.same a ne).trans g1, g2.off f⟩
    | ins c fs =>
      obtain ⟨dx, vs, g1, g2⟩ := hq
      exact ⟨dx, vs, (f.same a ne).trans g1, g2.off f⟩
  tab := fun q hq => by
    obtain ⟨ws, hw⟩ := f.lst
    obtain ⟨ps, t1, t2, t3⟩ := s.tab q hq
    have n1 : q.1 ≠ Dl := fun e => by
      rw [e, hw] at t1
      cases t1
    refine ⟨ps, (f.same _ n1).trans t1, t2, fun pos cv hcv => ?_⟩
    obtain ⟨c', e1, e2⟩ := t3 pos cv hcv
    refine ⟨c', e1, ?_⟩
    rw [f.same]
    · exact e2
    · intro e
      rw [e, hw] at e2
      cases e2
/-- a list begins to be made -/
def As.rsv (as : As) (p : Addr) : As := ⟨as.l, p :: as.r⟩
theorem Ext.rsv (h : H Dl = none) {o : HO} : Ext as H (as.rsv Dl) (upd H Dl o) where
  pre := ⟨[], by simp [As.rsv]⟩
  res1 := fun a ha => List.mem_cons_of_mem _ ha
  res2 := fun a ha n _ => by
    rcases List.mem_cons.mp ha with e | e
    · rw [e]; exact h
    · exact absurd e n
  new := fun a ha n => absurd ha n
  keep := fun b u hb _ _ => by rw [upd_ne (ne_of_none hb h)]; exact hb
  tbl := fun b ps hb => ⟨ps, by rw [upd_ne (ne_of_none hb h)]; exact hb⟩
theorem Sim.rsv {st : Hs} {vs : List V} (s : Sim K T st as H) (h : H Dl = none) : Sim K T st (as.rsv Dl) (upd H Dl (.lst vs)) where
  len := s.len
  nd := s.nd
  rn := List.nodup_cons.mpr ⟨(fun hm => by
    obtain ⟨_, ws, h2⟩ := s.rs Dl hm
    rw [h] at h2
    cases h2), s.rn⟩
  rs := fun a ha => by
    rcases List.mem_cons.mp ha with e | e
    · subst e
      refine ⟨fun hm => ?_, vs, upd_same⟩
      obtain ⟨o, h2, _⟩ := s.ok a hm
      rw [h] at h2
      cases h2
    · obtain ⟨h1, ws, h2⟩ := s.rs a e
      exact ⟨h1, ws, by rw [upd_ne (ne_of_none h2 h)]; exact h2⟩
  obj := fun n x a h1 h2 => (s.obj n x a h1 h2).ext (Ext.rsv h) s.ok (by
    obtain ⟨u, hu, _⟩ := s.ok a (List.mem_of_getElem? h2)
    rw [upd_ne (ne_of_none hu h)])
  tab := s.tab.ext fun b u hb => by rw [upd_ne (ne_of_none hb h)]; exact hb
/-- a turn's end: the list grows -/
theorem Off.grow {st : Hs} {vs : List V} (s : Sim K T st as H) (h : Dl ∈ as.r) : Off Dl as as H (upd H Dl (.lst vs)) := ⟨h, (s.rs Dl h).2, fun b n => upd_ne n, rfl, fun _ h => h⟩
theorem Ext.grow {as1 : As} {H1 : Hp} {o : HO} (e : Ext as1 H1 as H) (h : H1 Dl = none) : Ext as1 H1 as (upd H Dl o) where
  pre := e.pre
  res1 := e.res1
  res2 := e.res2
  new := e.new
  keep := fun b u hb n ht => by rw [upd_ne (ne_of_none hb h)]; exact e.keep b u hb n ht
  tbl := fun b ps hb => by rw [upd_ne (ne_of_none hb h)]; exact e.tbl b ps hb
/-- the list is made -/
def takeOut (H : Hp) (p : Addr) : Hp := fun b => if b = p then none else H b
def As.free (as : As) (p : Addr) : As := ⟨as.l, as.r.filter fun a => decide (a ≠ p)⟩
theorem Off.done {st : Hs} (s : Sim K T st as H) (h : Dl ∈ as.r) : Off Dl as (as.free Dl) H (takeOut H Dl) := ⟨h, (s.rs Dl h).2, fun b n => by unfold takeOut; rw [if_neg n], rfl, fun a ha => (List.mem_filter.mp ha).1⟩
theorem Sim.done {st : Hs} (s : Sim K T st as H) (h : Dl ∈ as.r) : Sim K T st (as.free Dl) (takeOut H Dl) := s.off (Off.done s h) (s.rn.filter _) fun hm => by
  have := (List.mem_filter.mp hm).2
  simp at this
theorem Ext.done {as1 : As} {H1 : Hp} {st1 : Hs} (s1 : Sim K T st1 as1 H1) (e : Ext as1 H1 as H) (h : H1 Dl = none) : Ext as1 H1 (as.free Dl) (takeOut H Dl) where
  pre := e.pre
  res1 := fun a ha => by
    refine List.mem_filter.mpr ⟨e.res1 a ha, ?_⟩
    obtain ⟨_, vs, h2⟩ := s1.rs a ha
    exact decide_eq_true (ne_of_none h2 h)
  res2 := fun a ha => e.res2 a ((List.mem_filter.mp ha).1)
  new := e.new
  keep := fun b u hb n ht => by unfold takeOut; rw [if_neg (ne_of_none hb h)]; exact e.keep b u hb n ht
  tbl := fun b ps hb => by unfold takeOut; rw [if_neg (ne_of_none hb h)]; exact e.tbl b ps hb
theorem takeOut_upd {o : HO} (h : H Dl = some o) : upd (takeOut H Dl) Dl o = H := by
  funext b
  by_cases e : b = Dl
  · subst e
    rw [upd_same, h]
  · rw [upd_ne e]
    unfold takeOut
    rw [if_neg e]
end
def noW : Str → Hp → Prop := fun _ _ => False
section
variable {X : Cx} {T : List (Addr × Str)} {W : Str → Hp → Prop} {C : Calls} {F : Nat}
/-- a comprehension's one turn -/
def bodyC (C : Calls) (F : Nat) (ρ : Rho) (own : List Nat) (t : Tg) (c : Oe) (i : E) : D → Hs → Res (Option D) := fun d st => (evTg C F t d (wipeR ρ own) st).bind fun ρ' st => (evC C F c ρ' st).bind fun k st => if k then (evE C F i ρ' st).bind fun x st => .ok (some x) st else .ok none st
abbrev tC0 (X : Cx) (T : List (Addr × Str)) (C : Calls) (F : Nat) (c : Oe) : TT := tOf X.K T noW REq (evC C F c)
theorem lc_of {own : List Nat} {t : Tg} {it : Rf.It} {c : Oe} {i : E} (hown : ∀ n ∈ t.names, n ∈ own) (σ : L2.St) (H : Hp) (Q : VK) (h : tL X T W C F (.comp own t it c i) σ H Q) :
    tLc (tI X T W C F it) (tG X T noW C F t) (tC0 X T C F c) (tE X T noW C F i) own σ H Q := by
  obtain ⟨ρ, st, as, s, r, p⟩ := h
  have p : PostL X.K T W as H Q ((evIt C F it ρ st).bind fun src st => (match src with
    | .st en ds => if lenOk ds = true then compS en (bodyC C F ρ own t c i) ds 0 [] st else .stuck
    | .dyn en n => compD en (bodyC C F ρ own t c i) n (min F bigN) 0 [] st)) := p
  refine ⟨ρ, st, as, s, r, ?_⟩
  refine Post.bindL p fun src st1 as1 H1 J e1 s1 j1 p1 => ?_
  intro Dl hD
  have r1 : REnv X.K as1 H1 ρ σ := r.ext e1 s.ok
  have fin : ∀ (acc : List D) (st2 : Hs) (as2 : As) (H2 : Hp) (accv : List V), PostL X.K T W as1 H1 Q (.ok acc.reverse st2) → Ext as1 H1 as2 H2 → Sim X.K T st2 as2 H2 → Dl ∈ as2.r → H2 Dl = some (.lst accv) → Reps X.K as2 H2 acc.reverse accv → Q (.ref Dl) H2 := by
    intro acc st2 as2 H2 accv p2 e2 s2 hm hl w
    have := p2 (as2.free Dl) (takeOut H2 Dl) Dl accv (Ext.done s1 e2 hD) (s2.done hm) (w.off (Off.done s2 hm)) (by unfold takeOut; rw [if_pos rfl])
    rw [takeOut_upd hl] at this
    exact this
  -- one turn: kk what is to come behind it
  have turn : ∀ (st2 : Hs) (as2 : As) (H2 : Hp) (x : V) (d : D) (acc : List D) (accv : List V) (kk : List D → Hs → Res (List D)) (Nx : Hp → Prop), Ext as1 H1 as2 H2 → Sim X.K T st2 as2 H2 → Dl ∈ as2.r → H2 Dl = some (.lst accv) → Reps X.K as2 H2 acc.reverse accv → acc.length < 100000 → Rep X.K as2 H2 d x →
      PostL X.K T W as1 H1 Q (match bodyC C F ρ own t c i d st2 with
        | .ok (some x) st' => kk (x :: acc) st'
        | .ok none st' => kk acc st'
        | _ => .stuck) →
      (∀ (acc' : List D) (st3 : Hs) (as3 : As) (H3 : Hp) (accv' : List V), (acc' = acc ∨ ∃ y, acc' = y :: acc) → Ext as1 H1 as3 H3 → Sim X.K T st3 as3 H3 → Dl ∈ as3.r → H3 Dl = some (.lst accv') → Reps X.K as3 H3 acc'.reverse accv' → PostL X.K T W as1 H1 Q (kk acc' st3) → Nx H3) →
      tG X T noW C F t x (wipe σ own) H2 fun σ2 H2 => wipe σ2 own = wipe σ own ∧ tC0 X T C F c σ2 H2 fun b H3 =>
        if b = true then tE X T noW C F i σ2 H3 fun y H4 => ∃ acc, H4 Dl = some (.lst acc) ∧ acc.length < sizeLine ∧ Nx (upd H4 Dl (.lst (acc ++ [y]))) else Nx H3 := by
    intro st2 as2 H2 x d acc accv kk Nx e2 s2 hm hl w hz rx p2 hN
    have keepD : ∀ {as3 : As} {H3 : Hp}, Ext as2 H2 as3 H3 → Dl ∈ as3.r ∧ H3 Dl = some (.lst accv) := fun {as3 H3} e3 =>
      ⟨e3.res1 Dl hm, e3.keep Dl _ hl (s2.rs Dl hm).1 fun ps z => by cases z⟩
    have hlen : accv.length = acc.length := by rw [← w.length]; simp
    refine ⟨wipeR ρ own, st2, as2, d, s2, (r1.ext e2 s1.ok).wipe own, rx, ?_⟩
    unfold bodyC at p2
    cases z1 : evTg C F t d (wipeR ρ own) st2 with
    | ok ρ3 st3 =>
      rw [z1] at p2
      intro as3 H3 σ3 e3 s3 r3
      refine ⟨?_, ρ3, st3, as3, s3, r3.1, ?_⟩
      · have a := r3.2.wipe (own := own) hown
        rw [a]
        -- wiped twice
        apply List.ext_getElem?
        intro j
        by_cases hj : j ∈ own
        · have e : ∀ (τ : L2.St) (own : List Nat), j ∈ own → (L2.wipe τ own)[j]? = if j < τ.length then some none else none := by
            intro τ own
            induction own with
            | nil => intro h; cases h
            | cons v vs ih =>
              intro h
              unfold L2.wipe
              by_cases hv : v = j
              · subst hv
                rw [List.getElem?_set]
                simp [wipe_length]
              · rw [List.getElem?_set_ne hv]
                exact ih ((List.mem_cons.mp h).resolve_left fun e => hv e.symm)
          rw [e _ _ hj, e _ _ hj, wipe_length]
        · have e : ∀ (τ : L2.St) (own : List Nat), j ∉ own → (L2.wipe τ own)[j]? = τ[j]? := by
            intro τ own
            induction own with
            | nil => intro h; rfl
            | cons v vs ih =>
              intro h
              rw [List.mem_cons, not_or] at h
              unfold L2.wipe
              rw [List.getElem?_set_ne (fun e => h.1 e.symm)]
              exact ih h.2
          rw [e _ _ hj]
      · simp only [Res.bind] at p2
        cases z2 : evC C F c ρ3 st3 with
        | ok k st4 =>
          rw [z2] at p2
          intro as4 H4 k' e4 s4 hk
          cases hk
          cases k with
          | false =>
            refine iteF ?_
            obtain ⟨g1, g2⟩ := keepD (e3.trans e4)
            exact hN acc st4 as4 H4 accv (.inl rfl) (e2.trans (e3.trans e4)) s4 g1 g2 (w.ext (e3.trans e4) s2.ok) p2
          | true =>
            refine iteT ⟨ρ3, st4, as4, s4, r3.1.ext e4 s3.ok, ?_⟩
            simp only [if_true] at p2
            cases z3 : evE C F i ρ3 st4 with
            | ok y st5 =>
              rw [z3] at p2
              intro as5 H5 v5 e5 s5 r5
              obtain ⟨g1, g2⟩ := keepD ((e3.trans e4).trans e5)
              refine ⟨accv, g2, by rw [hlen, sizeLine_eq]; omega, ?_⟩
              have off : Off Dl as5 as5 H5 (upd H5 Dl (.lst (accv ++ [v5]))) := Off.grow s5 g1
              refine hN (y :: acc) st5 as5 _ (accv ++ [v5]) (.inr ⟨y, rfl⟩) (Ext.grow (e2.trans ((e3.trans e4).trans e5)) hD) (s5.off off s5.rn fun _ => ⟨_, upd_same⟩) g1 upd_same ?_ p2
              rw [List.reverse_cons]
              exact ((w.ext ((e3.trans e4).trans e5) s2.ok).append (.cons r5 .nil)).off off
            | exc c st5 =>
              rw [z3] at p2
              exact p2.elim
            | stuck =>
              rw [z3] at p2
              exact p2.elim
        | exc c st4 =>
          rw [z2] at p2
          exact p2.elim
        | stuck =>
          rw [z2] at p2
          exact p2.elim
    | exc c st3 =>
      rw [z1] at p2
      exact p2.elim
    | stuck =>
      rw [z1] at p2
      exact p2.elim
  cases src with
  | st en ds =>
    dsimp only at p1
    split at p1
    · rename_i hlen
      have hlen := lenOk_le hlen
      refine ⟨fun j m H2 => ∃ st2 as2 acc accv, Ext as1 H1 as2 H2 ∧ Sim X.K T st2 as2 H2 ∧ Dl ∈ as2.r ∧ H2 Dl = some (.lst accv) ∧ Reps X.K as2 H2 acc.reverse accv ∧ acc.length ≤ j ∧ j ≤ ds.length ∧ m = ds.length - j ∧ PostL X.K T W as1 H1 Q (compS en (bodyC C F ρ own t c i) (ds.drop j) j acc st2),
        ⟨ds.length, st1, as1.rsv Dl, [], [], Ext.rsv hD, s1.rsv hD, List.mem_cons_self, upd_same, .nil, Nat.le_refl _, Nat.zero_le _, rfl, p1⟩, ?_⟩
      rintro j m H2 ⟨st2, as2, acc, accv, e2, s2, hm, hl, w, ha, hj, hmm, p2⟩
      obtain ⟨j2, j3⟩ := j1 as2 H2 st2 ds j e2 s2 rfl
      by_cases hlt : j < ds.length
      · refine .inr ?_
        obtain ⟨g1, g2⟩ := j3 _ (List.getElem?_eq_getElem hlt)
        refine ⟨g1, fun H' => ∃ m', m' < m ∧ _, fun H' h => h, fun x H3 hy => ?_⟩
        obtain ⟨e3, s3, rx⟩ := g2 x H3 hy
        have ed : ds.drop j = ds[j] :: ds.drop (j + 1) := List.drop_eq_getElem_cons hlt
        rw [ed] at p2
        unfold compS at p2
        have hl3 : H3 Dl = some (.lst accv) := e3.keep Dl _ hl (s2.rs Dl hm).1 fun ps z => by cases z
        refine turn st2 as2 H3 x (itemAt en j ds[j]) acc accv (fun acc st => compS en (bodyC C F ρ own t c i) (ds.drop (j + 1)) (j + 1) acc st) _ (e2.trans e3) s3 hm hl3 (w.ext e3 s2.ok) (by omega) rx p2 fun acc' st4 as4 H4 accv' ho e4 s4 hm4 hl4 w4 p4 => ?_
        refine ⟨ds.length - (j + 1), by omega, st4, as4, acc', accv', e4, s4, hm4, hl4, w4, ?_, by omega, rfl, p4⟩
        rcases ho with rfl | ⟨y, rfl⟩
        · omega
        · simp; omega
      · have ej : j = ds.length := by omega
        refine .inl ⟨j2 (by omega) (.inl ej), ?_⟩
        rw [ej, List.drop_length] at p2
        exact fin acc st2 as2 H2 accv p2 e2 s2 hm hl w
    · exact p1.elim
  | dyn en n =>
    refine ⟨fun j m H2 => ∃ st2 as2 acc accv, Ext as1 H1 as2 H2 ∧ Sim X.K T st2 as2 H2 ∧ Dl ∈ as2.r ∧ H2 Dl = some (.lst accv) ∧ Reps X.K as2 H2 acc.reverse accv ∧ acc.length ≤ j ∧ j + m = min F bigN ∧ PostL X.K T W as1 H1 Q (compD en (bodyC C F ρ own t c i) n m j acc st2),
      ⟨min F bigN, st1, as1.rsv Dl, [], [], Ext.rsv hD, s1.rsv hD, List.mem_cons_self, upd_same, .nil, Nat.le_refl _, Nat.zero_add _, p1⟩, ?_⟩
    rintro j m H2 ⟨st2, as2, acc, accv, e2, s2, hm, hl, w, ha, hj, p2⟩
    have hb : min F bigN ≤ 100000 := Nat.min_le_right _ _
    cases m with
    | zero => exact p2.elim
    | succ f =>
      unfold compD at p2
      split at p2
      · rename_i ds hds
        obtain ⟨j2, j3⟩ := j1 as2 H2 st2 ds j e2 s2 (cur_dyn hds)
        split at p2
        · rename_i hn
          exact .inl ⟨j2 (List.getElem?_eq_none_iff.mp hn) (.inr ⟨_, _, rfl⟩), fin acc st2 as2 H2 accv p2 e2 s2 hm hl w⟩
        · rename_i d hd
          refine .inr ?_
          obtain ⟨g1, g2⟩ := j3 _ hd
          refine ⟨g1, fun H' => ∃ m', m' < f + 1 ∧ _, fun H' h => h, fun x H3 hy => ?_⟩
          obtain ⟨e3, s3, rx⟩ := g2 x H3 hy
          have hl3 : H3 Dl = some (.lst accv) := e3.keep Dl _ hl (s2.rs Dl hm).1 fun ps z => by cases z
          refine turn st2 as2 H3 x (itemAt en j d) acc accv (fun acc st => compD en (bodyC C F ρ own t c i) n f (j + 1) acc st) _ (e2.trans e3) s3 hm hl3 (w.ext e3 s2.ok) (by omega) rx p2 fun acc' st4 as4 H4 accv' ho e4 s4 hm4 hl4 w4 p4 => ?_
          refine ⟨f, Nat.lt_succ_self _, st4, as4, acc', accv', e4, s4, hm4, hl4, w4, ?_, by omega, p4⟩
          rcases ho with rfl | ⟨y, rfl⟩
          · omega
          · simp; omega
      · exact p2.elim
end
end Rf

/-! Rf: calls, comprehensions as values, raise. -/
namespace Rf
open PySem PySem.Spec PyProof.Rows L2
/-- what is wanted of an exception, by the class's name -/
def WofE (K : PySem.W.Frag) (E : XK) : Str → Hp → Prop := fun c H => E (.ref (He.ga K c)) none H
def EofW (K : PySem.W.Frag) (W : Str → Hp → Prop) : XK := fun cls d H => d = none ∧ ∃ c, cls = .ref (He.ga K c) ∧ W c H
theorem WofE_of {K : PySem.W.Frag} {W : Str → Hp → Prop} {c : Str} {H : Hp} (h : W c H) : WofE K (EofW K W) c H := ⟨rfl, c, rfl, h⟩
theorem EofW_of {K : PySem.W.Frag} {E : XK} {cls : Value} {d : Option Addr} {H : Hp} (h : EofW K (WofE K E) cls d H) : E cls d H := by
  obtain ⟨rfl, c, rfl, h⟩ := h
  exact h
theorem Post.weakW {K : PySem.W.Frag} {T : List (Addr × Str)} {W W' : Str → Hp → Prop} {α β : Type} {R : As → Hp → α → β → Prop} {as : As} {H : Hp} {Q : β → Hp → Prop} {r : Res α} (h : Post K T W R as H Q r) (k : ∀ c H, W c H → W' c H) : Post K T W' R as H Q r := by
  cases r with
  | ok a st => exact h
  | exc c st => exact fun as' H' e s => k _ _ (h as' H' e s)
  | stuck => exact h
/-- a def's promise, by the evaluator -/
def spOf (K : PySem.W.Frag) (T : List (Addr × Str)) (C : Calls) (f n : Nat) : Sp := fun vs H Q E => vs.length = n ∧ ∃ ds st as, Sim K T st as H ∧ Reps K as H ds vs ∧ Post K T (WofE K E) (Rep K) as H Q (C f ds st)
section
variable {X : Cx} {T : List (Addr × Str)} {W : Str → Hp → Prop} {C : Calls} {F : Nat} {tg e a b c : Expr} {i ia ib ic : E} {pos p : Pos}
/-- what is known of a def that is called: its level is R -/
structure FnK (X : Cx) (T : List (Addr × Str)) (C : Calls) (R i : Nat) (a : Str × Option Str) (n : Nat) : Prop where
  ok : ∃ (fd : FuncData) (ps : List Str), FnOk X.prog X.w X.K X.mg X.base (L2N.CX X.prog X.w) R (He.fAd X.K a) fd ps (spOf X.K T C i n) ∧ ps.length = n ∧ Binds X.K fd ps []
/-- a def of the module by its name -/
structure FnG (X : Cx) (x : Str) : Prop where
  mg : X.mg x = some (.ref (He.fAd X.K (x, none)))
  kp : PySem.W.keepIn X.K (.ref (He.fAd X.K (x, none))) = true
theorem s_call {R f n : Nat} {x : Str} {es : List Expr} {is : Es} (hf : FnK X T C R f (x, none) n) (h3 : Room R X.A) (hG : FnG X x) (hx : Passes (L2N.CX X.prog X.w) X (EofW X.K W)) (hg : Gl X x) (hd : (x == ("__debug__" : Str)) = false) (ha : SEs X T W C F es is) (hn : es.length = n) : SE X T W C F (.Call (.Name x p) es [] pos) (.call f is) := by
  obtain ⟨fd, ps, h1, h2, h6⟩ := hf.ok
  obtain ⟨h4, h5⟩ := hG
  have fin : ∀ σ H Q, tE X T W C F (.call f is) σ H Q → tCall (spOf X.K T C f n) [] (EofW X.K W) (tEs X T W C F is) σ H Q := by
    intro σ H Q ⟨ρ, st, as, s, r, p⟩
    refine ⟨ρ, st, as, s, r, ?_⟩
    have p : Post X.K T W (Rep X.K) as H Q ((evEs C F is ρ st).bind fun ds st => C f ds st) := p
    cases q : evEs C F is ρ st with
    | ok ds st1 =>
      rw [q] at p
      intro as1 H1 vs e1 s1 r1
      have hl := ha.len ρ st ds st1 q
      refine ⟨by rw [List.append_nil, ← r1.length, hl, hn], ds, st1, as1, s1, by rw [List.append_nil]; exact r1, ?_⟩
      exact Post.weakW (Post.shift e1 p) fun c H h => WofE_of h
    | exc c st1 =>
      rw [q] at p
      exact p
    | stuck =>
      rw [q] at p
      exact p
  refine .of ?_ rfl rfl
  cases ha with
  | nil =>
    refine PE.weak (pe_call0 h1 h3 hg h4 h5 h6 .nil hx hd) fun σ H Q h => ?_
    obtain ⟨ρ, st, as, s, r, p⟩ := fin σ H Q h
    have p : Post X.K T W (Reps X.K) as H (fun vs H1 => spOf X.K T C f n (vs ++ []) H1 Q (EofW X.K W)) (.ok [] st) := p
    exact p.here s .nil
  | cons h t => exact PE.weak (pe_call h1 h3 hg h4 h5 h6 .nil hx (SEs.cons h t).pa hd (star_of h.st _ X.env) (stars_any t.st)) fin

/-! ### comprehensions -/
theorem s_comp {tg iter elt : Expr} {ifs : List Expr} {scope : Scope} {own : List (Str × Nat)} {t : Tg} {it : Rf.It} {c : Oe} (hc : X.calm = true) (hN : X.N.Nodup) (hi : PI X tg iter (tI X T W C F it)) (ok : BlkOk X.N X.env.scope scope own)
    (hg : ∀ (s : Shared) (H : Hp) (B : Addr) (cl : List (Str × Addr)) (fp : List Addr), SG (X.blk s H scope (compEnvC scope cl B X.env) fp) T noW C F tg t)
    (ht : ∀ (s : Shared) (H : Hp) (B : Addr) (cl : List (Str × Addr)) (fp : List Addr), PTs (X.blk s H scope (compEnvC scope cl B X.env) fp) ifs (tC0 X T C F c))
    (he : ∀ (s : Shared) (H : Hp) (B : Addr) (cl : List (Str × Addr)) (fp : List Addr), SE (X.blk s H scope (compEnvC scope cl B X.env) fp) T noW C F elt i)
    (hs : ∀ x, foldedSetIterable iter X.env x = pure x) (hown : ∀ n ∈ t.names, n ∈ own.map (·.2)) : SL X T W C F (.ListComp elt [⟨tg, iter, ifs, 0⟩] scope pos) (.comp (own.map (·.2)) t it c i) :=
  ⟨PE.weak (pe_lc (g := tG X T noW C F t) (tt := tC0 X T C F c) (te := tE X T noW C F i) hc hN hi ok (fun s H B cl fp => (hg s H B cl fp).pg) ht (fun s H B cl fp => (he s H B cl fp).pe) hs) fun σ H Q h => lc_of hown σ H Q h, rfl, rfl⟩
theorem ss_comp {tg iter elt : Expr} {ifs : List Expr} {scope : Scope} {own : List (Str × Nat)} {t : Tg} {it : Rf.It} {c : Oe} {n : Nat} {y : Str} {py spos : Pos} {mu : Bool} (hc : X.calm = true) (hN : X.N.Nodup) (hi : PI X tg iter (tI X T W C F it)) (ok : BlkOk X.N X.env.scope scope own)
    (hy : X.N[n]? = some y) (hyl : X.env.scope.names.lookup y = some .local) (hsw : swapsWith (.ListComp elt [⟨tg, iter, ifs, 0⟩] scope pos) (some (.Name y py)) spos.line X.env = pure true)
    (hg : ∀ (s : Shared) (H : Hp) (B : Addr) (cl : List (Str × Addr)) (fp : List Addr), SG (X.blk s H scope (compEnvC scope cl B X.env) fp) T noW C F tg t)
    (ht : ∀ (s : Shared) (H : Hp) (B : Addr) (cl : List (Str × Addr)) (fp : List Addr), PTs (X.blk s H scope (compEnvC scope cl B X.env) fp) ifs (tC0 X T C F c))
    (he : ∀ (s : Shared) (H : Hp) (B : Addr) (cl : List (Str × Addr)) (fp : List Addr), SE (X.blk s H scope (compEnvC scope cl B X.env) fp) T noW C F elt i)
    (hs : ∀ x, foldedSetIterable iter X.env x = pure x) (hown : ∀ n ∈ t.names, n ∈ own.map (·.2)) :
    PS X (.Assign [.Name y py] (.ListComp elt [⟨tg, iter, ifs, 0⟩] scope pos) spos) (tS X T W C F (.asgL n mu (.comp (own.map (·.2)) t it c i))) :=
  PS.weak (ps_setLc (g := tG X T noW C F t) (tt := tC0 X T C F c) (te := tE X T noW C F i) hc hN hy hyl hsw hi ok (fun s H B cl fp => (hg s H B cl fp).pg) ht (fun s H B cl fp => (he s H B cl fp).pe) hs) fun D σ H h => by
    have h1 := asgL_of D σ H h
    exact lc_of hown σ H _ h1
theorem pts_none : PTs X [] (tC0 X T C F .none) := ⟨fun pins s σ H Q I ⟨ρ, st, as, s', r, p⟩ => pts_nil.run pins s σ H Q I (p.here s' rfl)⟩
theorem pts_some (h : SE X T noW C F e i) : PTs X [e] (tC0 X T C F (.some i)) := pts_one h.pt

/-! ### raise X('m') -/
theorem ss_raise {x m : Str} {j : Nat} {p2 p3 : Pos} (hc : X.calm = true) (tk : L2N.Takes X (fun cls d _ H => EofW X.K W cls d H)) (q : (He.Fa.exc x).ok X.K = true) (hm : X.mg x = some (.ref (He.ga X.K x))) (hg : Gl X x) (hd : (x == ("__debug__" : Str)) = false) :
    PS X (.Raise (some (.Call (.Name x p) [.Constant (.str m) j p2] [] p3)) none pos) (tS X T W C F (.raise x)) := by
  obtain ⟨q1, q2, q3, q4⟩ := He.exc_ok q
  refine PS.weak (L2N.ps_raise hc tk (L2N.pmk_own PySem.F.excBase_ValueError q1 hm q2 (raises_own q3 q4) hg hd)) fun D σ H ⟨ρ, st, as, s, r, p⟩ => ?_
  have p : PostS X.K T W D as H (.exc x st) := p
  exact ⟨rfl, x, rfl, p as H (Ext.refl _ _) s⟩
end
end Rf

/-! Rf: t[::-1] of a tuple. -/
namespace Rf
open PySem PySem.Spec PyProof.Rows L2
theorem rev_pick (xs : Array Value) : ((List.range xs.size).filterMap fun (m : Nat) => xs[(((xs.size : Int) - 1) + (m : Int) * (-1)).toNat]?).toArray = xs.toList.reverse.toArray := by
  have e : (List.range xs.size).filterMap (fun (m : Nat) => xs[(((xs.size : Int) - 1) + (m : Int) * (-1)).toNat]?) = (List.range xs.size).filterMap (fun m => xs[xs.size - 1 - m]?) := by
    have : ∀ l : List Nat, (∀ m ∈ l, m < xs.size) → l.filterMap (fun (m : Nat) => xs[(((xs.size : Int) - 1) + (m : Int) * (-1)).toNat]?) = l.filterMap (fun m => xs[xs.size - 1 - m]?) := by
      intro l
      induction l with
      | nil => intro _; rfl
      | cons m l ih =>
        intro h
        have hm := h m List.mem_cons_self
        rw [List.filterMap_cons, List.filterMap_cons, ih fun x hx => h x (List.mem_cons_of_mem _ hx)]
        have : (((xs.size : Int) - 1) + (m : Int) * (-1)).toNat = xs.size - 1 - m := by omega
        rw [this]
    exact this _ fun m hm => List.mem_range.mp hm
  rw [e]
  have e2 := PySem.W.krv_range xs.size
  have e3 := PySem.W.krv_all xs
  have : (List.range xs.size).filterMap (fun m => xs[xs.size - 1 - m]?) = ((List.range xs.size).map (fun k => xs.size - 1 - k)).filterMap (xs[·]?) := by
    rw [List.filterMap_map]; rfl
  rw [this, e2, List.filterMap_reverse, e3]
section
variable {prog : Program} {w : World} {A : Around} {E : Value → Shared → Prop} {s : Shared}
theorem sliceApplied_rev {sl : Addr} {vl vu vs : Value} {n : Nat} {Q : Int × Int × Nat → Shared → Prop} (hs : s.heap.IsSliceOf sl vl vu vs) (pl : IsPart vl none) (pu : IsPart vu none) (ps : IsPart vs (some (-1)))
    (h : Q ((n : Int) - 1, -1, n) s) : wpAny (model prog w) A (Builtin.Slice.sliceApplied (.ref sl) (pure (n : Int))) Q E s := by
  obtain ⟨os, hos, hcs, hds⟩ := id hs
  unfold Builtin.Slice.sliceApplied Builtin.Slice.sliceFields
  refine wpAny_bind (wpAny_bind (wpAny_field hos hds (x := vl) rfl (wpAny_bind (wpAny_field hos hds (x := vu) rfl (wpAny_bind (wpAny_field hos hds (x := vs) rfl (wpAny_pure ?_)))))))
  refine wpAny_bind (HT.slicePart_ ps ?_)
  show wpAny _ _ (if ((-1 : Int) == 0) = true then _ else _) _ _ s
  rw [if_neg (by decide)]
  refine wpAny_bind (HT.slicePart_ pl (wpAny_bind (HT.slicePart_ pu (wpAny_bind (wpAny_pure ?_)))))
  show wpAny _ _ (match Builtin.Slice.sliceAdjust none none (-1) (n : Int) with | (lo, hi) => pure (lo, (-1 : Int), Builtin.Slice.slicePlaces lo hi (-1))) _ _ s
  have e1 : Builtin.Slice.sliceAdjust none none (-1) (n : Int) = ((n : Int) - 1, -1) := by
    simp [Builtin.Slice.sliceAdjust]
  have e2 : Builtin.Slice.slicePlaces ((n : Int) - 1) (-1) (-1) = n := by
    unfold Builtin.Slice.slicePlaces
    have h1 : ¬ ((-1 : Int) > 0) := by decide
    simp only [h1, if_false]
    split
    · rw [show (- -1 : Int) = 1 by decide, Int.ediv_one]
      omega
    · omega
  rw [e1]
  show wpAny _ _ (pure ((n : Int) - 1, (-1 : Int), Builtin.Slice.slicePlaces ((n : Int) - 1) (-1) (-1))) _ _ s
  rw [e2]
  exact wpAny_pure h
theorem getItem_tuple_rev {t sl : Addr} {items : Array Value} {vl vu vs : Value} {Q : Value → Shared → Prop} (ht : IsTup s.heap t items) (hs : s.heap.IsSliceOf sl vl vu vs) (pl : IsPart vl none) (pu : IsPart vu none) (ps : IsPart vs (some (-1)))
    (h : Q (.ref s.heap.objs.size) { s with heap := s.heap.push { cls := .type "tuple", data := .seq items.toList.reverse.toArray } })
    (hsz : items.size ≤ sizeLine) : wpAny (model prog w) A (getItem (.ref t) (.ref sl)) Q E s := by
  have htake : sizeOk (.seq items.toList.reverse.toArray) := by
    show items.toList.reverse.toArray.size ≤ sizeLine
    rw [List.size_toArray, List.length_reverse, Array.length_toList]
    exact hsz
  obtain ⟨os, hos, hcs, hds⟩ := id hs
  have hTs : s.TypeIs (.ref sl) "slice" := ⟨os, hos, hcs⟩
  unfold getItem
  try with_reducible refine wpAny_holding ?_
  first | refine wpAny_bind (wpAny_pure ?_) | skip
  refine wpAny_bind (wpAny_sequenceKey ht.typeIs (by decide) ?_)
  refine wpAny_bind (wpAny_callSpecial?_slot (name := Str.ofString "__getitem__") ht.typeIs PyProof.Rows.slot_tuple_getitem
    (wpAny_call_entry PyProof.Rows.slot_tuple_getitem ht.typeIs entry_tuple_getitem ?_ (args_tuple_getitem _ _)))
  show wpAny _ _ (Builtin.Tuple.tupleItemsOf (.ref t) >>= _) _ _ s
  refine wpAny_bind (tupleItemsOf_ ht ?_)
  refine wpAny_bind (wpAny_typeOf hTs ?_)
  rw [if_pos (by decide)]
  refine wpAny_bind (sliceApplied_rev hs pl pu ps ?_)
  have hno : ¬ (((((items.size : Nat) : Int) - 1) == 0 && (-1 : Int) == 1 && items.size == items.size) = true) := by
    intro q
    rw [Bool.and_eq_true, Bool.and_eq_true] at q
    have := q.1.2
    exact absurd this (by decide)
  show wpAny _ _ (if ((((items.size : Nat) : Int) - 1) == 0 && (-1 : Int) == 1 && items.size == items.size) = true then _ else _) _ _ s
  rw [if_neg hno, rev_pick]
  first
    | exact wpAny_bind (m := Builtin.Tuple.tupleExact _) (wpAny_newObj_type (wpAny_pure ⟨_, rfl, wpAny_pure h⟩) htake)
    | exact wpAny_bind (m := Builtin.Tuple.tupleExact _) (wpAny_newObj_type (wpAny_bind (wpAny_pure (wpAny_pure ⟨_, rfl, wpAny_pure h⟩))) htake)
    | exact wpAny_bind (wpAny_bind (m := Builtin.Tuple.tupleExact _) (wpAny_newObj_type (wpAny_pure (wpAny_pure ⟨_, rfl, wpAny_pure h⟩)) htake))
    | exact wpAny_bind (wpAny_bind (m := Builtin.Tuple.tupleExact _) (wpAny_newObj_type (wpAny_pure ⟨_, rfl, wpAny_pure h⟩) htake))
end
section
variable {X : Cx} {T : List (Addr × Str)} {W : Str → Hp → Prop} {C : Calls} {F : Nat} {a : Expr} {ia : E}
def tRevT (K : PySem.W.Frag) (te : TE) : TE := fun σ H Q => te σ H fun x H1 => ∃ a xs, x = .ref a ∧ SqT K H1 a xs ∧ ∀ p, H1 p = none → Q (.ref p) (upd H1 p (.tup xs.reverse))
theorem pe_revT {e : Expr} {te : TE} {k : Nat} {p1 p2 p3 pos : Pos} (he : PE X e te) : PE X (.Subscript e (.Slice none none (some (.UnaryOp .USub (.Constant (.int 1) k p1) p2)) p3) pos) (tRevT X.K te) := by
  refine ⟨fun pins s σ H Q I h => ?_⟩
  refine Subscript_ (thn (he.run pins s σ H _ I h) fun v s1 ⟨x, H1, I1, r1, q1⟩ => ?_)
  obtain ⟨a, xs, ex, hx, q⟩ := q1
  subst ex
  cases r1
  have hst : PO X (some (.UnaryOp .USub (.Constant (.int 1) k p1) p2)) (tPart (tUn (rU fun i => .int (-i)) (tC (.int 1)))) := po_some (pe_un un_neg pe_int)
  refine wpAny_Slice (thn (po_none.run pins s1 σ H1 (fun o H2 => o = none ∧ H2 = H1) I1 ⟨rfl, rfl⟩) fun vl s2 ⟨l, H2, I2, pl, el, e2⟩ => ?_)
  subst el e2
  refine thn (po_none.run pins s2 σ H2 (fun o H3 => o = none ∧ H3 = H2) I2 ⟨rfl, rfl⟩) fun vu s3 ⟨u, H3, I3, pu, eu, e3⟩ => ?_
  subst eu e3
  refine thn (hst.run pins s3 σ H3 (fun o H4 => o = some (-1) ∧ H4 = H3) I3 ⟨1, rfl, -1, rfl, rfl, rfl⟩) fun vs s4 ⟨o, H4, I4, ps, eo, e4⟩ => ?_
  subst eo e4
  have I5 : Inv X pins σ H4 { s4 with heap := s4.heap.push { cls := .type "slice", data := .fields #[vl, vu, vs] } } := I4.kept (t' := s4.toks) fun b ob q => Heap.get?_push_of_some _ q
  obtain ⟨its, r, ht, hz⟩ := I5.tuple hx
  have hlen := r.length
  show wpAny (model X.prog X.w) X.A (subscriptTail e (.Slice none none (some (.UnaryOp .USub (.Constant (.int 1) k p1) p2)) p3) (.ref a) (.ref s4.heap.objs.size)) (EP X pins σ Q) X.xe { s4 with heap := s4.heap.push { cls := .type "slice", data := .fields #[vl, vu, vs] } }
  refine tail_any (ops := [.ref a, .ref s4.heap.objs.size]) ht.typeIs (PyProof.Rows.slot_tuple_getitem.lookup) ?_ (by with_unfolding_all rfl)
  refine getItem_tuple_rev ht (Heap.IsSliceOf.new _ vl vu vs) pl pu ps ?_ (by rw [List.size_toArray]; omega)
  refine ⟨.ref _, _, I5.laid (t' := s4.toks) (o := .tup xs.reverse) (fun b o e => Heap.get?_push_of_some _ e) (Nat.le_refl _) ?_, rfl, q _ (I5.hok.fresh (Nat.le_refl _))⟩
  exact ⟨by rw [List.length_reverse]; exact hz, its.reverse, r.reverse, ⟨_, Heap.get?_push_size _ rfl, rfl, _, rfl⟩⟩
theorem s_rev {k : Nat} {p1 p2 p3 pos : Pos} (ha : SE X T W C F a ia) : SE X T W C F (.Subscript a (.Slice none none (some (.UnaryOp .USub (.Constant (.int 1) k p1) p2)) p3) pos) (.rev ia) := by
  refine .of (PE.weak (pe_revT ha.pe) fun σ H Q ⟨ρ, st, as, s, r, p⟩ => ⟨ρ, st, as, s, r, ?_⟩) rfl rfl
  refine Post.bind (R := Rep X.K) (show Post X.K T W (Rep X.K) as H Q ((evE C F ia ρ st).bind _) from p) fun x st1 as1 H1 v e1 s1 r1 p1 => ?_
  split at p1
  · rename_i ds e0
    obtain ⟨l, vs, rfl, q, w⟩ := rd_tup s1 r1 e0
    exact ⟨l, vs, rfl, q, fun p n => p1.newT s1 w.reverse n⟩
  · exact p1.elim
end
end Rf

/-! Rf: sorted(set(t)), t a tuple of ints or of tuples of ints. -/
namespace L2
open PySem PySem.Spec PyProof.Rows
section
variable {P : Program} {w : World} {A : Around} {E : Value → Shared → Prop} {s : Shared}
/-- set(t), t a tuple of tuples of ints (call_set_tups, its list a tuple) -/
theorem call_set_tupT {l : Addr} {items : Array Value} (ks : List (Addr × List Int)) {Q : Value → Shared → Prop} (hh : A.handled = none) (hl : s.heap.IsTuple l items) (hit : items.toList = ks.map fun p => Value.ref p.1)
    (hk : ∀ p ∈ ks, IsT P w s.heap p.2 p.1) (hfew : ks.length < 64) (hu : A.units + 3 < cLine)
    (h : ∀ (h' : Heap) (tk : Nat) L es ep t, SetTR P w h' s.heap.objs.size L es ep t → Got ks ks.length L → (∀ b o, s.heap.get? b = some o → h'.get? b = some o) → Q (.ref s.heap.objs.size) { s with heap := h', toks := tk }) :
    wpAny (model P w) A (call (.type "set") [.ref l]) Q E s := by
  have hisz : items.size = ks.length := by
    have q := congrArg List.length hit
    rw [Array.length_toList, List.length_map] at q
    exact q
  obtain ⟨c, tl, hmro⟩ := F.called_set.mro
  have hmade := F.called_set.made
  have hsub := F.called_set.sub
  refine wpAny_call (codeAny_of_tree ?_)
  show wpAny _ _ (callAny (.type "set") _) _ _ _
  refine wpAny_pure ⟨Code.quiet_builtin _ (by decide +kernel), codeAny_builtin F.entry_type_call ?_⟩
  rw [Around.under_plain (weight_type_call_type "set" [.ref l] []) rfl]
  have h1 := F.called_set.notType
  have h2 := F.called_set.canCreate
  have hct := F.typeCall_set_1 (.ref l)
  repeat (any_goals (first | assumption | wp_step))

  refine codeAny_mono (code_set_led1 (.ref l) (E := E) (Q₁ := fun obj s₁ => obj = .ref s.heap.objs.size ∧ s₁ = { s with heap := s.heap.push { cls := .type "set", dict := none, data := .set #[] 0 (.fresh 0 0 (!w.params.followText "set-order")) } }) ⟨rfl, rfl⟩) fun r s₁ hr => ?_
  cases r with
  | error e => exact hr
  | ok fl =>
    cases fl with
    | ret obj =>
      obtain ⟨rfl, rfl⟩ := hr
      have hS : (s.heap.push { cls := .type "set", dict := none, data := .set #[] 0 (.fresh 0 0 (!w.params.followText "set-order")) }).get? s.heap.objs.size = some { cls := .type "set", dict := none, data := .set #[] 0 (.fresh 0 0 (!w.params.followText "set-order")) } := Heap.get?_push_size _ rfl
      have hT : Shared.TypeIs { s with heap := s.heap.push { cls := .type "set", dict := none, data := .set #[] 0 (.fresh 0 0 (!w.params.followText "set-order")) } } (.ref s.heap.objs.size) "set" := ⟨_, hS, rfl⟩
      have hli := F.called_set.init.lookup
      have hbi := F.called_set.init.bind (.ref s.heap.objs.size)
      repeat (any_goals (first | assumption | wp_step))

      refine codeAny_mono (codeAny_call_builtin (R := wants (fun r s₂ => r = .none ∧ ∃ h' tk L es ep t, s₂ = { s with heap := h', toks := tk } ∧ SetTR P w h' s.heap.objs.size L es ep t ∧ Got ks ks.length L ∧
          (∀ b o, s.heap.get? b = some o → h'.get? b = some o)) E) F.called_set.init.plain F.entry_set_init (check_set_init_1 hT ?_)) fun r₂ s₂ hr₂ => ?_
      · obtain ⟨ol, hol, hcl, nl, hdl⟩ := hl
        obtain ⟨ocls, odict, odata, oslots⟩ := ol
        simp only at hcl hdl
        subst hcl; subst hdl
        have hol' : (s.heap.push { cls := .type "set", dict := none, data := .set #[] 0 (.fresh 0 0 (!w.params.followText "set-order")) }).get? l = some { cls := .type "tuple", dict := odict, data := .seq items nl, slots := oslots } := Heap.get?_push_of_some _ hol
        have hsls := F.sub_tuple_set
        have hslf := F.sub_tuple_frozenset
        have hne : (Value.type "tuple" == Value.type "dict") = false := by decide
        have hl1 : (s.heap.push { cls := .type "set", dict := none, data := .set #[] 0 (.fresh 0 0 (!w.params.followText "set-order")) }).IsTuple l items := ⟨_, hol', rfl, nl, rfl⟩
        unfold Builtin.«set.__init__» noKeywords Builtin.Frozenset.updateFrom
        generalize hPI : pyIter = PI
        wp_walk
        subst hPI

        refine wpAny_pyIter_tuple hl1 ?_
        refine wpAny_bind (wpAny_runValue ?_)
        have hlS : l < s.heap.objs.size := Heap.lt_size hol
        have hh3 : A.in1.in1.in1.handled = none := by simp [hh]
        have hz1 : (s.heap.push { cls := .type "set", dict := none, data := .set #[] 0 (.fresh 0 0 (!w.params.followText "set-order")) }).objs.size = s.heap.objs.size + 1 := Heap.size_push ..
        have hneI : l ≠ (s.heap.push { cls := .type "set", dict := none, data := .set #[] 0 (.fresh 0 0 (!w.params.followText "set-order")) }).objs.size := by
          rw [Heap.size_push]; exact Nat.ne_of_lt (Nat.lt_succ_of_lt hlS)
        have hSf : s.heap.objs.size ∉ [(s.heap.push { cls := .type "set", dict := none, data := .set #[] 0 (.fresh 0 0 (!w.params.followText "set-order")) }).objs.size, l] := by
          rw [Heap.size_push]; simp only [List.mem_cons, List.mem_singleton, List.not_mem_nil, or_false, not_or]
          exact ⟨Nat.ne_of_lt (Nat.lt_succ_self _), Nat.ne_of_gt hlS⟩
        have hval : ∀ (i : Nat) (v : Value), items[i]? = some v → ∃ p, ks[i]? = some p ∧ v = .ref p.1 := fun i v hv => by
          have q : items.toList[i]? = some v := by rw [Array.getElem?_toList]; exact hv
          rw [hit, List.getElem?_map] at q
          cases hq : ks[i]? with
          | none => rw [hq] at q; cases q
          | some p =>
            rw [hq] at q
            exact ⟨p, rfl, (Option.some.inj q).symm⟩
        have none_of : ∀ b, s.heap.objs.size ≤ b → s.heap.get? b = none := fun b hb => by
          cases q : s.heap.get? b with
          | none => rfl
          | some o => exact absurd (Nat.lt_of_lt_of_le (Heap.lt_size q) hb) (Nat.lt_irrefl _)
        refine set_update_tups ((Walks.tuple hh3 _ l hneI items).toS) s.heap.objs.size
          hSf ks hisz hfew hval s.heap hk (none_of _ (Nat.le_refl _)) (fun b hb => none_of b (by
            rw [List.mem_singleton.mp hb, Heap.size_push]
            exact Nat.le_succ _)) hu (items.size - 0) 0 _ (by omega) (Nat.zero_le _)
          ⟨⟨_, Heap.get?_push_size _ rfl, rfl, rfl⟩, (hl1.push _)⟩ (fun b o e => Heap.get?_push_of_some _ (Heap.get?_push_of_some _ e)) ?hS0 ?hR
        case hS0 =>
          have hget : ((s.heap.push { cls := .type "set", dict := none, data := .set #[] 0 (.fresh 0 0 (!w.params.followText "set-order")) }).push { cls := .type "tuple_iterator", data := .fields #[.ref l, .int 0 0] }).get? s.heap.objs.size
              = some { cls := .type "set", dict := none, data := .set #[] 0 (.fresh 0 0 (!w.params.followText "set-order")) } := Heap.get?_push_of_some _ hS
          exact ⟨[], #[], 0, _, setTR_fresh hget, Got.zero ks⟩
        case hR =>
          intro s' L es ep t hm hS' g' hkp
          obtain ⟨h', g2, d', tk', os'⟩ := s'
          have eg : g2 = s.gens := hm.gens
          have ed : d' = s.drawn := hm.drawn
          have eo : os' = s.os := hm.os
          subst eg; subst ed; subst eo
          show wpAny _ _ _ _ _ _
          refine wpAny_pure ?_
          show wpAny _ _ (ret Value.none) _ _ _
          rw [hisz] at g'
          exact wpAny_pure ⟨rfl, h', tk', L, es, ep, t, rfl, hS', g', hkp⟩

      · cases r₂ with
        | error e => exact hr₂
        | ok fl₂ =>
          cases fl₂ with
          | ret r =>
            obtain ⟨rfl, h', tk, L, es, ep, t, rfl, hS', g', hk'⟩ := hr₂
            repeat (any_goals (first | assumption | wp_step))
            exact h _ _ _ _ _ _ hS' g' hk'
          | _ => exact hr₂.elim
    | _ => exact hr.elim
end
end L2

namespace Rf
open PySem PySem.Spec PyProof.Rows L2
open PySem.W (dataLt)
section
variable {prog : Program} {w : World} {A : Around} {E : Value → Shared → Prop} {s : Shared}
/-- sorted(S): by any order -/
theorem sorted_setO {a : Addr} {es : Array (Int × Value)} {ep : Nat} {t : SetTable} {ltv : Value → Value → Bool} {Q : Value → Shared → Prop} (O : SrtO.Swo ltv) (hh : A.handled = none) (ha : SetAt s.heap a es ep t) (hf : t.fits es.size = true) (hsz : es.size < 64)
    (r : Ris t.place.toList) (hl : w.params.followText "set-order" = true ∨ t.led = true)
    (hS : ∀ (vs : List Value) (s1 : Shared) (p : Addr), vs.Perm (es.toList.map (·.2)) → 2 ≤ vs.length → s1.heap.get? p = some (seqObj "list" vs.toArray 0) → (∀ b o, s.heap.get? b = some o → b ≠ p ∧ s1.heap.get? b = some o) → SrtO.SortableO prog w A.in1.in1 s1 p vs ltv)
    (hQ : ∀ s' p (out : List Value) (c : Nat), (∀ b o, s.heap.get? b = some o → s'.heap.get? b = some o) → s'.gens = s.gens → s'.os = s.os → s.heap.objs.size ≤ p →
      s'.heap.get? p = some (seqObj "list" out.toArray c) → SrtO.Srtd ltv out → out.Perm (es.toList.map (·.2)) → Q (.ref p) s') :
    wpAny (model prog w) A (call (.builtin "sorted") [.ref a]) Q E s := by
  refine Calls.call_function_entry kind_sorted plain_sorted entry_sorted (args_sorted1 _) ?_
  unfold Builtin.«sorted»
  refine wpAny_bind (m := checkCount "sorted" 1 1 _) (wpAny_pure ?_)
  refine wpAny_bind (collect_set (A := A.in1) hh ha hf (by unfold scanBound; omega) r hl fun s1 vs k1 hz g1 o1 pm => ?_)
  have hvl : vs.length < 64 := by rw [pm.length_eq, List.length_map, Array.length_toList]; exact hsz
  have hvz : vs.length ≤ sizeLine := by rw [sizeLine_eq]; omega
  refine wpAny_bind (wpAny_newList ?_ hvz)
  have hoL : (s1.heap.push (seqObj "list" vs.toArray 0)).get? s1.heap.objs.size = some (seqObj "list" vs.toArray 0) := Heap.get?_push_size _ rfl
  have keep : ∀ b o, s.heap.get? b = some o → b ≠ s1.heap.objs.size ∧ (s1.heap.push (seqObj "list" vs.toArray 0)).get? b = some o := fun b o e =>
    ⟨Nat.ne_of_lt (Heap.lt_size (k1 b o e)), Heap.get?_push_of_some _ (k1 b o e)⟩
  refine wpAny_bind (wpAny_holding (wpAny_call_entry slot_list_sort ⟨_, hoL, rfl⟩ entry_list_sort (SrtO.list_sort_ord (s := { s1 with heap := s1.heap.push (seqObj "list" vs.toArray 0) }) O hoL hvz (fun h2 => hS vs { s1 with heap := s1.heap.push (seqObj "list" vs.toArray 0) } _ pm h2 hoL keep) fun out hs hb => ⟨_, rfl, ?_⟩) (args_list_sort _)))
  obtain ⟨c, hc⟩ := sortedHeap_at (vs := vs) (out := out.toArray) hoL
  refine wpAny_pure ⟨_, rfl, hQ _ s1.heap.objs.size out c (fun b u e => ?_) g1 o1 hz hc hs (hb.perm.trans pm)⟩
  have q := k1 b u e
  have hlt := Heap.lt_size q
  show (sortedHeap (s1.heap.push (seqObj "list" vs.toArray 0)) s1.heap.objs.size vs out.toArray).get? b = some u
  rw [sortedHeap_old (Nat.ne_of_lt hlt) (by rw [size_push']; exact Nat.lt_succ_of_lt hlt)]
  exact Heap.get?_push_of_some _ q
end
/-! ### each once -/
theorem eqD_iff {n : Nat} {a b : D} (h1 : lvl n a = true) (h2 : lvl n b = true) : eqD a b = true ↔ a = b := ⟨eqD_eq n a b h1 h2, fun e => by subst e; exact eqD_rfl n a (lvl_sh n a h1)⟩
theorem dedup_mem {n : Nat} : ∀ {ds : List D}, lvls n ds = true → ∀ {d : D}, d ∈ dedup ds ↔ d ∈ ds
  | [], _, d => by simp [dedup]
  | x :: xs, h, d => by
    obtain ⟨h1, h2⟩ := lvls_cons.mp h
    unfold dedup
    have ih := dedup_mem h2 (d := d)
    split
    · rename_i hx
      obtain ⟨y, hy, e⟩ := List.any_eq_true.mp hx
      have e := (eqD_iff h1 (lvls_all.mp h2 y hy)).mp e
      rw [ih, List.mem_cons]
      refine ⟨.inr, fun z => ?_⟩
      rcases z with rfl | z
      · rw [e]; exact hy
      · exact z
    · rw [List.mem_cons, List.mem_cons, ih]
theorem dedup_nodup {n : Nat} : ∀ {ds : List D}, lvls n ds = true → (dedup ds).Nodup
  | [], _ => List.nodup_nil
  | x :: xs, h => by
    obtain ⟨h1, h2⟩ := lvls_cons.mp h
    unfold dedup
    split
    · exact dedup_nodup h2
    · rename_i hx
      refine List.nodup_cons.mpr ⟨fun hm => hx ?_, dedup_nodup h2⟩
      have hm := (dedup_mem h2).mp hm
      exact List.any_eq_true.mpr ⟨x, hm, (eqD_iff h1 h1).mpr rfl⟩
theorem dedup_lvls {n : Nat} {ds : List D} (h : lvls n ds = true) : lvls n (dedup ds) = true := lvls_all.mpr fun d hd => lvls_all.mp h d ((dedup_mem h).mp hd)
theorem sort_perm {n : Nat} {a b : List D} (h : lvls n a = true) (p : a.Perm b) : sortD a = sortD b := by
  have hb := lvls_perm p.symm h
  refine srt_uniq (lt := fun x y => dataLt (toP x) (toP y)) (((sortD_perm a).trans p).trans (sortD_perm b).symm) (sortD_srtd a h) (sortD_srtd b hb) fun x hx y hy e1 e2 => ?_
  have hs := lvls_perm (sortD_perm a) h
  exact data_anti (lvls_all.mp hs x hx) (lvls_all.mp hs y hy) e1 e2
section
variable {X : Cx} {T : List (Addr × Str)} {W : Str → Hp → Prop} {C : Calls} {F : Nat} {a : Expr} {ia : E}
/-- the set's values, by what they read as -/
theorem set_end {pins : List (Addr × Obj)} {σ : L2.St} {H : Hp} {Q : VK} {s s1 : Shared} {as : As} {st : Hs} {S : Addr} {es : Array (Int × Value)} {ep : Nat} {t : SetTable} {n : Nat} {ds ds0 : List D} (hc : X.calm = true) (hu : X.A.units + 65 < cLine)
    (I : Inv X pins σ H s) (sm : Sim X.K T st as H) (p : PostL X.K T W as H Q (.ok (sortD (dedup ds)) st)) (hl : lvls n ds = true) (hn : n ≤ 1) (hne : ∀ d ∈ ds, d ≠ .tup [])
    (I1 : Inv X pins σ H s1) (ha : SetAt s1.heap S es ep t) (hf : t.fits es.size = true) (hsz : es.size < 64) (hr : Ris t.place.toList) (hled : X.w.params.followText "set-order" = true ∨ t.led = true)
    (hv : ∃ us vs : List D, us = ds0 ∧ Paired (fun v d => d ∈ ds ∧ ∃ x, Rep X.K as H d x ∧ RelV x v) (es.toList.map (·.2)) ds0) (hnd : ds0.Nodup) (hall : ∀ d ∈ ds, d ∈ ds0) :
    wpAny (model X.prog X.w) X.A (call (.builtin "sorted") [.ref S]) (EP X pins σ Q) X.xe s1 := by
  obtain ⟨_, _, _, pr⟩ := hv
  have mem0 : ∀ {vs : List Value} {d0 : List D}, Paired (fun v d => d ∈ ds ∧ ∃ x, Rep X.K as H d x ∧ RelV x v) vs d0 → ∀ d ∈ d0, d ∈ ds := fun {vs d0} pr => by
    induction pr with
    | nil => intro d hd; cases hd
    | cons h _ ih =>
      intro d hd
      rcases List.mem_cons.mp hd with e | e
      · rw [e]; exact h.1
      · exact ih d e
  have hl0 : lvls n ds0 = true := lvls_all.mpr fun d hd => lvls_all.mp hl d (mem0 pr d hd)
  have pm0 : ds0.Perm (dedup ds) := (List.perm_ext_iff_of_nodup hnd (dedup_nodup hl)).mpr fun d => ⟨fun hd => (dedup_mem hl).mpr (mem0 pr d hd), fun hd => hall d ((dedup_mem hl).mp hd)⟩
  have eS : sortD (dedup ds) = sortD ds0 := (sort_perm hl0 pm0).symm
  -- what they read as
  have reads0 : ∀ {vs : List Value} {d0 : List D}, Paired (fun v d => d ∈ ds ∧ ∃ x, Rep X.K as H d x ∧ RelV x v) vs d0 → ∃ bs, ReadsAll s1.heap vs (toPs d0) bs := fun {vs d0} pr => by
    induction pr with
    | nil => exact ⟨_, ReadsAll.nil⟩
    | cons h _ ih =>
      obtain ⟨hd, x, q1, q2⟩ := h
      have hd' := lvls_all.mp hl _ hd
      obtain ⟨b1, r1⟩ := Dp.reads I1 _ _ _ (dp_of n (lvl_sh n _ hd') q1) q2
      obtain ⟨b2, r2⟩ := ih
      exact ⟨_, .cons r1 r2⟩
  obtain ⟨bs, hrd⟩ := reads0 pr
  have each : ∀ v ∈ es.toList.map (·.2), ∃ d ∈ ds0, ∃ x, Rep X.K as H d x ∧ RelV x v ∧ SeqAt.readOf s1.heap v = toP d := by
    have : ∀ {vs : List Value} {d0 : List D}, Paired (fun v d => d ∈ ds ∧ ∃ x, Rep X.K as H d x ∧ RelV x v) vs d0 → ∀ v ∈ vs, ∃ d ∈ d0, d ∈ ds ∧ ∃ x, Rep X.K as H d x ∧ RelV x v := fun {vs d0} pr => by
      induction pr with
      | nil => intro v hv; cases hv
      | cons h _ ih =>
        intro v hv
        rcases List.mem_cons.mp hv with e | e
        · subst e
          exact ⟨_, List.mem_cons_self, h⟩
        · obtain ⟨d, hd, q⟩ := ih v e
          exact ⟨d, List.mem_cons_of_mem _ hd, q⟩
    intro v hv
    obtain ⟨d, hd, hm, x, q1, q2⟩ := this pr v hv
    have hd' := lvls_all.mp hl _ hm
    obtain ⟨b1, r1⟩ := Dp.reads I1 _ _ _ (dp_of n (lvl_sh n _ hd') q1) q2
    exact ⟨d, hd, x, q1, q2, SeqAt.readOf_eq (lay_toP n d (lvl_sh n d hd')).1 r1⟩
  refine sorted_setO (data_swo (SeqAt.readOf s1.heap)) (I1.ok.hd hc) ha hf hsz hr hled (fun vs s2 q pm h2 hq kk => ?_) fun s' q out c k1 g1 o1 hz hc' hs hb => ?_
  · -- the order in which the set was walked
    obtain ⟨dz, pz, rz⟩ : ∃ dz : List D, dz.Perm ds0 ∧ ∃ cs, ReadsAll s1.heap vs (toPs dz) cs := by
      have : ∀ {l : List Value}, (∀ v ∈ l, ∃ d ∈ ds0, SeqAt.readOf s1.heap v = toP d ∧ ∃ b, Reads s1.heap v (toP d) b) → ∃ dz : List D, (∀ d ∈ dz, d ∈ ds0) ∧ dz.map toP = l.map (SeqAt.readOf s1.heap) ∧ ∃ cs, ReadsAll s1.heap l (toPs dz) cs := by
        intro l
        induction l with
        | nil => intro _; exact ⟨[], fun d h => (by cases h), rfl, _, ReadsAll.nil⟩
        | cons v l ih =>
          intro h
          obtain ⟨d, hd, e1, b1, r1⟩ := h v List.mem_cons_self
          obtain ⟨dz, h1, h2, cs, h3⟩ := ih fun u hu => h u (List.mem_cons_of_mem _ hu)
          exact ⟨d :: dz, fun x hx => by
            rcases List.mem_cons.mp hx with e | e
            · rw [e]; exact hd
            · exact h1 x e, by rw [List.map_cons, List.map_cons, h2, e1], _, .cons r1 h3⟩
      obtain ⟨dz, h1, h2, cs, h3⟩ := this (l := vs) fun v hv => by
        obtain ⟨d, hd, x, q1, q2, q3⟩ := each v (pm.mem_iff.mp hv)
        have hd' := lvls_all.mp hl0 _ hd
        obtain ⟨b1, r1⟩ := Dp.reads I1 _ _ _ (dp_of n (lvl_sh n _ hd') q1) q2
        exact ⟨d, hd, q3, b1, r1⟩
      refine ⟨dz, ?_, cs, h3⟩
      have cl : PyData.canLayAll0 (toPs ds0) = true := (lays_toP n ds0 (lvls_sh n ds0 hl0)).1
      have em := SeqAt.readsAll_map (toPs ds0) _ bs cl hrd
      have p1 : (dz.map toP).Perm (ds0.map toP) := by
        rw [h2, ← toPs_map ds0, ← em]
        exact pm.map _
      have nd1 : (dz.map toP).Nodup := p1.nodup_iff.mpr (List.pairwise_map.mpr (List.Pairwise.imp_of_mem (fun {x y} hx hy hne e => hne (toP_inj (lvls_all.mp hl0 x hx) (lvls_all.mp hl0 y hy) e)) hnd))
      have nd2 : dz.Nodup := nodup_of_map nd1
      refine (List.perm_ext_iff_of_nodup nd2 hnd).mpr fun d => ⟨h1 d, fun hd => ?_⟩
      obtain ⟨d', hd', e⟩ := List.mem_map.mp (p1.mem_iff.mpr (List.mem_map.mpr ⟨d, hd, rfl⟩))
      rw [← toP_inj (lvls_all.mp hl0 _ (h1 d' hd')) (lvls_all.mp hl0 d hd) e]
      exact hd'
    obtain ⟨cs, rz⟩ := rz
    have hlz : lvls n dz = true := lvls_perm pz hl0
    have hsh : sortShape dz = true := by
      have hne' : ∀ d ∈ dz, d ≠ .tup [] := fun d hd => hne d (mem0 pr d (pz.mem_iff.mp hd))
      have : (dz.all fun d => match d with | .tup [] => false | _ => true) = true := List.all_eq_true.mpr fun d hd => by
        have := hne' d hd
        split
        · exact absurd rfl this
        · rfl
      cases dz with
      | nil => rfl
      | cons d dz =>
        cases d with
        | tup xs =>
          cases xs with
          | nil => rfl
          | cons _ _ => exact this
        | _ => exact this
    have e1 : ∀ v ∈ vs, SeqAt.readOf s2.heap v = SeqAt.readOf s1.heap v := fun v hv => by
      obtain ⟨p', as1, m1, r1⟩ := readsAll_mem rz v hv
      obtain ⟨d', hd', rfl⟩ := mem_toPs.mp m1
      have c0 := (lay_toP n d' (lvl_sh n d' (lvls_all.mp hlz d' hd'))).1
      rw [SeqAt.readOf_eq c0 r1, SeqAt.readOf_eq c0 (Reads.keeps (fun b o e => (kk b o e).2) r1)]
    have S1 := sortable_data (prog := X.prog) (w := X.w) (A := X.A.in1.in1) (s := s2) (a := q) (ReadsAll.keeps (fun b o e => (kk b o e).2) rz) hlz hsh h2 (fun o e => by
      have e' : some o = some (seqObj "list" vs.toArray 0) := e.symm.trans hq
      cases e'
      intro c
      exact absurd (Value.type.inj c) (by decide)) (by
        show X.A.units + 1 + 1 + n < cLine
        omega)
    intro h' keep
    obtain ⟨κ, k1, k2⟩ := S1 h' keep
    refine ⟨κ, k1, fun p' q' hp hq => ?_⟩
    have := k2 p' q' hp hq
    refine wpAny_mono this (fun r s' hr => ⟨hr.1, ?_⟩) fun _ _ z => z
    rw [hr.2]
    show dataLt (SeqAt.readOf s2.heap p'.1) (SeqAt.readOf s2.heap q'.1) = dataLt (SeqAt.readOf s1.heap p'.1) (SeqAt.readOf s1.heap q'.1)
    rw [e1 _ hp, e1 _ hq]
  · have eo := sorted_out hl0 hrd hs hb
    obtain ⟨w1, w2⟩ := reps_back (K := X.K) (as := as) (H := H) (rd := SeqAt.readOf s1.heap) (n := n) (lvls_perm (sortD_perm ds0) hl0) eo fun u hu' => by
      obtain ⟨d, hd, x, q1, q2, q3⟩ := each u (hb.mem_iff.mp hu')
      exact ⟨d, x, lvls_all.mp hl0 d hd, q1, q2, q3⟩
    have hlen' : (out.map bkA).length ≤ sizeLine := by
      rw [List.length_map, hb.length_eq, List.length_map, Array.length_toList, sizeLine_eq]
      omega
    rw [eS] at p
    obtain ⟨h', g', d', tk, os'⟩ := s'
    have eg : g' = s1.gens := g1
    have eo' : os' = s1.os := o1
    subst eg eo'
    have I2 : Inv X pins σ (upd H q (.lst (out.map bkA))) ⟨h', s1.gens, d', tk, s1.os⟩ := by
      have I3 : Inv X pins σ H ⟨s1.heap, s1.gens, d', s1.toks, s1.os⟩ := ⟨I1.ok, I1.os, I1.bare, I1.base, I1.loc, I1.cell, I1.free, I1.freeC, I1.pin, I1.hok, I1.len⟩
      exact I3.laid (t' := tk) k1 hz ⟨hlen', out, c, w2, hc'⟩
    exact ⟨.ref q, _, I2, rfl, p.new sm w1 (I1.hok.fresh hz)⟩
end
end Rf

namespace Rf
open PySem PySem.Spec PyProof.Rows L2
open PySem.W (dataLt)
section
variable {X : Cx} {T : List (Addr × Str)} {W : Str → Hp → Prop} {C : Calls} {F : Nat} {a : Expr} {ia : E}
theorem lvl0_ints : ∀ {ds : List D}, lvls 0 ds = true → ∃ ns, allInt ds = some ns ∧ ds = ns.map .int
  | [], _ => ⟨[], rfl, rfl⟩
  | d :: ds, h => by
    obtain ⟨h1, h2⟩ := lvls_cons.mp h
    obtain ⟨i, rfl⟩ := lvl_int h1
    obtain ⟨ns, h3, h4⟩ := lvl0_ints h2
    exact ⟨i :: ns, by simp [allInt, h3], by rw [h4]; rfl⟩
/-- tuples of ints: where they stand -/
theorem keys_of {pins : List (Addr × Obj)} {σ : L2.St} {H : Hp} {s : Shared} {as : As} (I : Inv X pins σ H s) : ∀ {ds : List D} {vs : List V} {us : List Value}, lvls 1 ds = true → Reps X.K as H ds vs → Vals vs us →
    ∃ ks : List (Addr × List Int), us = ks.map (fun p => Value.ref p.1) ∧ ds = ks.map (fun p => D.tup (p.2.map .int)) ∧ (∀ p ∈ ks, IsT X.prog X.w s.heap p.2 p.1) ∧ ∀ p ∈ ks, Rep X.K as H (.tup (p.2.map .int)) (.ref p.1) := by
  intro ds
  induction ds with
  | nil =>
    intro vs us _ r q
    cases r
    cases q
    exact ⟨[], rfl, rfl, fun p h => (by cases h), fun p h => (by cases h)⟩
  | cons d ds ih =>
    intro vs us h r q
    obtain ⟨h1, h2⟩ := lvls_cons.mp h
    obtain ⟨xs, rfl, h3⟩ := lvl_tup h1
    obtain ⟨ns, h4, rfl⟩ := lvl0_ints h3
    cases r with
    | cons r rs =>
      cases q with
      | cons q qs =>
        obtain ⟨ks, e1, e2, k1, k2⟩ := ih h2 rs qs
        have r0 := r
        cases r with
        | @tup b ws _ hq rr =>
          have ew := Reps.ints h4 rr
          subst ew
          cases q
          obtain ⟨its, rv, ht, hz⟩ := I.tuple hq
          refine ⟨(b, ns) :: ks, by rw [e1]; rfl, by rw [e2]; rfl, fun p hp => ?_, fun p hp => ?_⟩
          · rcases List.mem_cons.mp hp with e | e
            · subst e
              obtain ⟨o, ho, hc, m, hd⟩ := ht
              exact ⟨o, its.toArray, m, ho, hc, hd, by simpa using items_of_vals rv⟩
            · exact k1 p e
          · rcases List.mem_cons.mp hp with e | e
            · subst e
              exact r0
            · exact k2 p e
def tSS (X : Cx) (T : List (Addr × Str)) (W : Str → Hp → Prop) (ta : TE) : TE := fun σ H Q => ta σ H fun x H1 => ∃ d st as, Sim X.K T st as H1 ∧ Rep X.K as H1 d x ∧ PostL X.K T W as H1 Q (ok1 st (sortedSetV (dr st d)))
theorem pe_sortedSet {ta : TE} {p p2 q pos : Pos} (hc : X.calm = true) (hu : X.A.units + 65 < cLine) (hg : Gl X "sorted") (hm : X.mg "sorted" = none) (hg2 : Gl X "set") (hm2 : X.mg "set" = none) (ha : PE X a ta)
    (na : starEach [a] X.env = (false, eval a X.env) :: starEach [] X.env) : PE X (.Call (.Name "sorted" p) [.Call (.Name "set" p2) [a] [] q] [] pos) (tSS X T W ta) := by
  refine ⟨fun pins s σ H Q I h => ?_⟩
  refine Call_ (ld_blt I hg hm (u := .builtin "sorted") (by decide +kernel) ?_)
  refine PyProof.Rows.callWith_builtin1 (PyProof.Rows.args_cons ?_ rfl) rfl rfl
  refine Call_ (ld_blt I hg2 hm2 boot_set ?_)
  refine PyProof.Rows.callWith_type1 (PyProof.Rows.args_cons (thn (ha.run pins s σ H _ I h) fun v s1 ⟨x, H1, I1, r1, q1⟩ => PyProof.Rows.args_nil ?_) na) na rfl
  obtain ⟨d, st, as, sm, rp, pl⟩ := q1
  obtain ⟨z, hz, pl⟩ := pl.ok1
  unfold sortedSetV at hz
  split at hz
  · rename_i ds e0
    split at hz
    · rename_i hcond
      cases hz
      obtain ⟨h60, hk⟩ := bnd hcond
      have h60 : ds.length < 60 := by
        have : Nat.ble (ds.length + 1) 60 = true := h60
        exact Nat.le_of_ble_eq_true this
      obtain ⟨l, vs, rfl, hq, rs⟩ := rd_tup sm rp e0
      cases r1
      obtain ⟨its, rv, ht, hz⟩ := I1.tuple hq
      have hh := I1.ok.hd hc
      rcases Bool.or_eq_true_iff.mp hk with hk | hk
      · obtain ⟨ns, h4, e4⟩ := lvl0_ints hk
        have ev := Reps.ints h4 rs
        subst ev
        have hnl : ns.length = ds.length := by rw [e4, List.length_map]
        refine call_set_tupI ns hh ht (by simpa using intsAre_of rv) (by unfold scanBound; omega) fun h' tk c R hc' kk => PyProof.Rows.args_nil ?_
        obtain ⟨o, es, ep, t, ho, hex, hd, g, nd, hmm, hb, hf, hn, hr, hl⟩ := R
        have I2 : Inv X pins σ H1 { s1 with heap := h', toks := tk } := I1.kept kk
        have hsz : es.size < 64 := by omega
        refine set_end (ds := ds) (ds0 := es.toList.map fun e => .int (keyOf e)) (n := 0) hc hu I1 sm pl hk (by omega) (fun d hd e => ?_) I2 ⟨o, ho, hex.1, hd⟩ hf hsz hr hl ⟨_, [], rfl, ?_⟩ ?_ fun d hd => ?_
        · obtain ⟨i, rfl⟩ := lvl_int (lvls_all.mp hk d hd)
          cases e
        · have key : ∀ l : List (Int × Value), (∀ e ∈ l, e ∈ es.toList) → Paired (fun v d => d ∈ ds ∧ ∃ x, Rep X.K as H1 d x ∧ RelV x v) (l.map (·.2)) (l.map fun e => .int (keyOf e)) := by
            intro l
            induction l with
            | nil => intro _; exact .nil
            | cons e l ih =>
              intro hl
              refine .cons ?_ (ih fun x hx => hl x (List.mem_cons_of_mem _ hx))
              have he := hl e List.mem_cons_self
              obtain ⟨k, tk', h1, _⟩ := g e he
              have ek : keyOf e = k := by unfold keyOf; rw [h1]
              have hS := (hmm k).mpr (List.mem_map.mpr ⟨e, he, ek⟩)
              have hkn : k ∈ ns := of_decide_eq_true hS
              show D.int (keyOf e) ∈ ds ∧ ∃ x, Rep X.K as H1 (D.int (keyOf e)) x ∧ RelV x e.2
              rw [ek]
              exact ⟨by rw [e4]; exact List.mem_map.mpr ⟨k, hkn, rfl⟩, .int k, .int k, ⟨tk', h1⟩⟩
          exact key _ fun e he => he
        · have : (es.toList.map fun e => D.int (keyOf e)) = (es.toList.map keyOf).map D.int := by rw [List.map_map]; rfl
          rw [this]
          exact List.pairwise_map.mpr (nd.imp fun hne e => hne (D.int.inj e))
        · obtain ⟨i, rfl⟩ := lvl_int (lvls_all.mp hk d hd)
          rw [e4] at hd
          obtain ⟨j, hj, e⟩ := List.mem_map.mp hd
          cases e
          obtain ⟨e, he, ek⟩ := List.mem_map.mp ((hmm i).mp (decide_eq_true hj))
          exact List.mem_map.mpr ⟨e, he, by rw [ek]⟩
      · obtain ⟨hk, hne⟩ := bnd hk
        obtain ⟨ks, e1, e2, k1, k2⟩ := keys_of I1 hk rs rv
        have hkl : ks.length = ds.length := by rw [e2, List.length_map]
        refine call_set_tupT ks hh ht (by simpa using e1) k1 (by omega) (by omega) fun h' tk L es ep t R G kk => PyProof.Rows.args_nil ?_
        have I2 : Inv X pins σ H1 { s1 with heap := h', toks := tk } := I1.kept kk
        have sub : ∀ p ∈ L, p ∈ ks := fun p hp => List.mem_of_mem_take (G.sub p hp)
        have hes : es.toList.map (·.2) = L.map fun q => Value.ref q.1 := by
          rw [R.rows]
          unfold rowsOf
          rw [List.map_map] <;> rfl
        have hsz : es.size < 64 := by rw [SetTR.size (s := { s1 with heap := h', toks := tk }) R]; exact R.few
        refine set_end (ds := ds) (ds0 := L.map fun q => .tup (q.2.map .int)) (n := 1) hc hu I1 sm pl hk (Nat.le_refl _) (fun d hd e => ?_) I2 (by obtain ⟨o, ho, hex, hd⟩ := R.ob; exact ⟨o, ho, hex.1, hd⟩) (SetTR.fits (s := { s1 with heap := h', toks := tk }) R) hsz R.tab.ris R.led ⟨_, [], rfl, ?_⟩ ?_ fun d hd => ?_
        · subst e
          have := List.all_eq_true.mp hne _ hd
          cases this
        · rw [hes]
          have key : ∀ l : List (Addr × List Int), (∀ e ∈ l, e ∈ L) → Paired (fun v d => d ∈ ds ∧ ∃ x, Rep X.K as H1 d x ∧ RelV x v) (l.map fun q => Value.ref q.1) (l.map fun q => .tup (q.2.map .int)) := by
            intro l
            induction l with
            | nil => intro _; exact .nil
            | cons e l ih =>
              intro hl
              refine .cons ?_ (ih fun x hx => hl x (List.mem_cons_of_mem _ hx))
              have he := sub e (hl e List.mem_cons_self)
              exact ⟨by rw [e2]; exact List.mem_map.mpr ⟨e, he, rfl⟩, .ref e.1, k2 e he, rfl⟩
          exact key _ fun e he => he
        · have : (L.map fun q => D.tup (q.2.map .int)) = (L.map (·.2)).map fun k => D.tup (k.map .int) := by rw [List.map_map]; rfl
          rw [this]
          refine List.pairwise_map.mpr (R.nd.imp fun hne e => hne ?_)
          have e := D.tup.inj e
          exact List.map_inj_right (fun x y h => D.int.inj h) |>.mp e
        · rw [e2] at hd
          obtain ⟨q', hq', e⟩ := List.mem_map.mp hd
          have hm := G.all q' (by rw [List.take_length]; exact hq')
          obtain ⟨q2, hq2, e3⟩ := List.mem_map.mp hm
          exact List.mem_map.mpr ⟨q2, hq2, by rw [← e, ← e3]⟩
    · cases hz
  · cases hz
theorem s_sortedSet {p p2 q pos : Pos} (hc : X.calm = true) (hu : X.A.units + 65 < cLine) (ha : SE X T W C F a ia) (hg : Gl X "sorted") (hm : X.mg "sorted" = none) (hg2 : Gl X "set") (hm2 : X.mg "set" = none) :
    SL X T W C F (.Call (.Name "sorted" p) [.Call (.Name "set" p2) [a] [] q] [] pos) (.sortedSet ia) := by
  refine ⟨PE.weak (pe_sortedSet (T := T) (W := W) hc hu hg hm hg2 hm2 ha.pe (star_of ha.st [] X.env)) fun σ H Q ⟨ρ, st, as, s, r, p⟩ => ⟨ρ, st, as, s, r, ?_⟩, rfl, rfl⟩
  have p : PostL X.K T W as H Q ((evE C F ia ρ st).bind fun x st => ok1 st (sortedSetV (dr st x))) := p
  exact Post.bindL p fun x st1 as1 H1 v e1 s1 r1 p1 => ⟨x, st1, as1, s1, r1, p1⟩
end
end Rf

/-! Rf: classes: C(..), o.m(..), o.f, o.f = e. -/
namespace Rf
open PySem PySem.Spec PyProof.Rows L2
/-! ### fields -/
section
variable {K : PySem.W.Frag} {as : As} {H : Hp}
theorem FReps.get : ∀ {ds : List (Str × D)} {vs : List (Str × V)} {f : Str} {d : D}, FReps K as H ds vs → ds.lookup f = some d → ∃ v, vs.lookup f = some v ∧ Rep K as H d v
  | _, _, f, d, .nil, h => by simp at h
  | _, _, f, d, .cons (f := g) (d := d1) (v := v1) a b, h => by
    by_cases e : f = g
    · subst e
      rw [List.lookup_cons_self] at h ⊢
      cases h
      exact ⟨_, rfl, a⟩
    · have hb : (f == g) = false := by simpa using e
      simp only [List.lookup, hb] at h ⊢
      exact FReps.get b h
theorem FReps.no : ∀ {ds : List (Str × D)} {vs : List (Str × V)} {f : Str}, FReps K as H ds vs → ds.lookup f = none → vs.lookup f = none
  | _, _, f, .nil, h => rfl
  | _, _, f, .cons (f := g) (d := d1) (v := v1) a b, h => by
    by_cases e : f = g
    · subst e
      rw [List.lookup_cons_self] at h
      cases h
    · have hb : (f == g) = false := by simpa using e
      simp only [List.lookup, hb] at h ⊢
      exact FReps.no b h
theorem FReps.put {f : Str} {d : D} {v : V} (r : Rep K as H d v) : ∀ {ds : List (Str × D)} {vs : List (Str × V)}, FReps K as H ds vs → FReps K as H (putD f d ds) (putF f v vs)
  | _, _, .nil => .cons r .nil
  | _, _, .cons (f := g) (d := d1) (v := v1) a b => by
    unfold putD putF
    by_cases e : g = f
    · rw [if_pos e, if_pos e]
      exact .cons r b
    · rw [if_neg e, if_neg e]
      exact .cons a (FReps.put r b)
theorem FReps.len : ∀ {ds : List (Str × D)} {vs : List (Str × V)}, FReps K as H ds vs → ds.length = vs.length
  | _, _, .nil => rfl
  | _, _, .cons _ b => congrArg (· + 1) (FReps.len b)
end
/-! ### calls of methods in the text -/
theorem meth_ev {o : Expr} {m : Str} {apos pos : Pos} {args : List Expr} {env : Env} (hbase : attributeBase o m env (eval o env) = eval o env) (hform : methodCallForm (args.length + ([] : List Keyword).length) (backTo pos (starEach args env)) (backToKw pos (keywordEach [] env)) = true)
    (hline : (apos.endLine == pos.line) = true) : ∃ pl : Sem Bool, eval (.Call (.Attribute o m apos) args [] pos) env = (do
      let ov ← eval o env
      standAt apos.atName
      let (f, first) ← holding [ov] (getMethod ov m pl)
      callWith pos f first (backTo pos (starEach args env)) (backToKw pos (keywordEach [] env))) := by
  refine ⟨do return (← importBound o env).getD true, ?_⟩
  rw [arm_eval_Call, hbase]
  unfold methodCall calleeOf methodCallPos
  simp only [hform, hline, if_true, Bool.not_true, Bool.or_true, pure_bind]
structure ClsK (K : PySem.W.Frag) (c : Str) : Prop where
  cl : Cls K (He.ga K c)
section
variable {X : Cx} {T : List (Addr × Str)} {W : Str → Hp → Prop} {C : Calls} {F : Nat} {tg e a b : Expr} {i ia ib : E} {pos p : Pos}
theorem s_fld {c f : Str} (ha : SE X T W C F a ia) (hc : Cls X.K (He.ga X.K c)) (hn : NoAttr X.K (He.ga X.K c) f) (hb : okBase a = true) : SE X T W C F (.Attribute a f pos) (.fld c ia f) := by
  refine .of (PE.weak (pe_fld ha.pe (base_of hb _ _ _)) fun σ H Q ⟨ρ, st, as, s, r, p⟩ => ⟨ρ, st, as, s, r, ?_⟩) rfl rfl
  refine Post.bind (R := Rep X.K) (show Post X.K T W (Rep X.K) as H Q ((evE C F ia ρ st).bind _) from p) fun x st1 as1 H1 v e1 s1 r1 p1 => ?_
  cases x with
  | ref n =>
    dsimp only at p1
    split at p1
    · rename_i c' fs hx
      split at p1
      · rename_i hcc
        subst hcc
        obtain ⟨d, hd, p2⟩ := p1.ok1
        obtain ⟨l, g1, g2, dx, vs, g3, g4⟩ := s1.at hx
        cases r1 with
        | ref q =>
          rw [g1] at q
          cases q
          obtain ⟨u, hu, ru⟩ := g4.get hd
          exact ⟨l, _, dx, vs, u, rfl, g3, hc, hn, hu, p2.here s1 ru⟩
      · exact p1.elim
    · exact p1.elim
  | _ => exact p1.elim
theorem ss_fld {c f : Str} {pos' : Pos} (hv : SE X T W C F e i) (ha : SE X T W C F a ia) (hc : Cls X.K (He.ga X.K c)) (hn : NoAttr X.K (He.ga X.K c) f) (hcm : nComp e = true) : PS X (.Assign [.Attribute a f pos'] e pos) (tS X T W C F (.fld c ia f i)) := by
  refine PS.weak (ps_fld ha.pe hv.pe (swap_of hcm _ _ _)) fun D σ H ⟨ρ, st, as, s, r, p⟩ => ⟨ρ, st, as, s, r, ?_⟩
  refine PostS.bind (R := Rep X.K) (show PostS X.K T W D as H ((evE C F i ρ st).sr _) from p) fun y st1 as1 H1 u e1 s1 r1 p1 => ?_
  refine ⟨ρ, st1, as1, s1, r.ext e1 s.ok, ?_⟩
  refine PostS.bind (R := Rep X.K) (show PostS X.K T W D as1 H1 ((evE C F ia ρ st1).sr _) from p1) fun x st2 as2 H2 v e2 s2 r2 p2 => ?_
  cases x with
  | ref n =>
    dsimp only at p2
    split at p2
    · rename_i c' fs hx
      split at p2
      · rename_i hcc
        obtain ⟨h1, h2⟩ := bnd hcc
        have h1 := of_decide_eq_true h1
        subst h1
        obtain ⟨l, g1, g2, dx, vs, g3, g4⟩ := s2.at hx
        cases r2 with
        | ref q =>
          rw [g1] at q
          cases q
          have hl : vs.length < 1000 := by
            rw [← g4.len]
            have : Nat.ble (fs.length + 1) 100 = true := h2
            have := Nat.le_of_ble_eq_true this
            omega
          refine ⟨l, _, dx, vs, rfl, g3, hc, hn, hl, ?_⟩
          have ew : Ext as2 H2 as2 (upd H2 l (.ins (He.ga X.K c') dx (putF f u vs))) := Ext.write s2.ok g2
          have ry := (r1.ext e2 s1.ok).ext ew s2.ok
          exact p2 as2 _ _ ew (s2.write g1 ⟨dx, _, upd_same, FReps.put ry (g4.ext ew s2.ok)⟩) ((r.ext e1 s.ok).ext (e2.trans ew) s1.ok)
      · exact p2.elim
    · exact p2.elim
  | _ => exact p2.elim
theorem s_meth {c m : Str} {R f n : Nat} {es : List Expr} {is : Es} {apos : Pos} (ho : SE X T W C F a ia) (hc : Cls X.K (He.ga X.K c)) (hm : Meth X.K (He.ga X.K c) m (He.fAd X.K (c, some m))) (hf : FnK X T C R f (c, some m) n) (h3 : Room R X.A) (hx : Passes (L2N.CX X.prog X.w) X (EofW X.K W))
    (ha : SEs X T W C F es is) (hn : es.length + 1 = n) (hb : okBase a = true) (hl : (apos.endLine == pos.line) = true) (hfew : es.length < 20) : SE X T W C F (.Call (.Attribute a m apos) es [] pos) (.meth c m f ia is) := by
  obtain ⟨fd, ps, h1, h2, h6⟩ := hf.ok
  have hform : methodCallForm (es.length + ([] : List Keyword).length) (backTo pos (starEach es X.env)) (backToKw pos (keywordEach [] X.env)) = true := by
    unfold methodCallForm
    rw [stars_all ha.st]
    show (true && true && decide (es.length + 0 + 0 < 30)) = true
    rw [decide_eq_true (by omega)]
    rfl
  obtain ⟨pl, ht⟩ := meth_ev (o := a) (m := m) (apos := apos) (pos := pos) (args := es) (env := X.env) (base_of hb _ _ _) hform hl
  have fin : ∀ σ H Q, tE X T W C F (.meth c m f ia is) σ H Q → tMeth (He.ga X.K c) m (spOf X.K T C f n) [] (EofW X.K W) (tE X T W C F ia) (tEs X T W C F is) σ H Q := by
    intro σ H Q ⟨ρ, st, as, s, r, p⟩
    refine ⟨ρ, st, as, s, r, ?_⟩
    refine Post.bind (R := Rep X.K) (show Post X.K T W (Rep X.K) as H Q ((evE C F ia ρ st).bind _) from p) fun x st1 as1 H1 v e1 s1 r1 p1 => ?_
    cases x with
    | ref nn =>
      dsimp only at p1
      split at p1
      · rename_i c' fs hxx
        split at p1
        · rename_i hcc
          obtain ⟨q1, q2⟩ := bnd hcc
          have q1 := of_decide_eq_true q1
          subst q1
          have q2 : fs.lookup m = none := by
            cases z : fs.lookup m with
            | none => rfl
            | some _ => rw [z] at q2; cases q2
          obtain ⟨l, g1, g2, dx, vs, g3, g4⟩ := s1.at hxx
          cases r1 with
          | ref q =>
            rw [g1] at q
            cases q
            refine ⟨l, dx, vs, rfl, g3, g4.no q2, ρ, st1, as1, s1, r.ext e1 s.ok, ?_⟩
            cases z : evEs C F is ρ st1 with
            | ok ds st2 =>
              rw [z] at p1
              intro as2 H2 us e2 s2 r2
              have hlen := ha.len ρ st1 ds st2 z
              refine ⟨by rw [List.append_nil, List.length_cons, ← r2.length, hlen, hn], .ref nn :: ds, st2, as2, s2, ?_, ?_⟩
              · rw [List.append_nil]
                exact .cons ((Rep.ref g1).ext e2 s1.ok) r2
              · exact Post.weakW (Post.shift e2 p1) fun c H h => WofE_of h
            | exc c st2 =>
              rw [z] at p1
              exact p1
            | stuck =>
              rw [z] at p1
              exact p1
        · exact p1.elim
      · exact p1.elim
    | _ => exact p1.elim
  refine .of ?_ rfl rfl
  cases ha with
  | nil =>
    refine PE.weak (pe_meth0 (pl := pl) ho.pe hc hm h1 h3 h6 .nil hx ht) fun σ H Q h => ?_
    obtain ⟨ρ, st, as, s, r, p⟩ := fin σ H Q h
    refine ⟨ρ, st, as, s, r, ?_⟩
    refine Post.mono p fun b H1 hb => ?_
    obtain ⟨l, dx, fs, e1, e2, e3, ρ2, st2, as2, s2, r2, p2⟩ := hb
    refine ⟨l, dx, fs, e1, e2, e3, ?_⟩
    have p2 : Post X.K T W (Reps X.K) as2 H1 _ (.ok [] st2) := p2
    exact p2.here s2 .nil
  | cons h t => exact PE.weak (pe_meth (pl := pl) ho.pe hc hm h1 h3 h6 .nil hx (SEs.cons h t).pa (star_of h.st _ X.env) (stars_any t.st) ht) fin
theorem s_make {c : Str} {R f n : Nat} {es : List Expr} {is : Es} (hM : Mk X.K (He.ga X.K c) (He.fAd X.K (c, some "__init__"))) (hmg : X.mg c = some (.ref (He.ga X.K c)))
    (hf : FnK X T C R f (c, some "__init__") n) (h3 : Room (R + 1) X.A) (hx : Passes (L2N.CX X.prog X.w) X (EofW X.K W))
    (hg : Gl X c) (hd : (c == ("__debug__" : Str)) = false) (ha : SEs X T W C F es is) (hn : es.length + 1 = n) (hne : es ≠ []) : SE X T W C F (.Call (.Name c p) es [] pos) (.make c f is) := by
  obtain ⟨fd, ps, h1, h2, h6⟩ := hf.ok
  have fin : ∀ σ H Q, tE X T W C F (.make c f is) σ H Q → tMake (He.ga X.K c) (spOf X.K T C f n) [] (EofW X.K W) (tEs X T W C F is) σ H Q := by
    intro σ H Q ⟨ρ, st, as, s, r, p⟩
    refine ⟨ρ, st, as, s, r, ?_⟩
    have p : Post X.K T W (Rep X.K) as H Q ((evEs C F is ρ st).bind fun ds st => (C f (.ref st.length :: ds) (st ++ [.ins c []])).bind fun r st' => (match r with
      | .non => .ok (.ref st.length) st'
      | _ => .stuck)) := p
    cases q : evEs C F is ρ st with
    | ok ds st1 =>
      rw [q] at p
      intro as1 H1 vs e1 s1 r1 x dx nx nd ne
      have hl := ha.len ρ st ds st1 q
      have p := Post.shift e1 p
      have ef : Ext as1 H1 as1 (upd H1 dx (.own x)) := Ext.fresh nd
      have sf : Sim X.K T st1 as1 (upd H1 dx (.own x)) := s1.fresh nd
      have nx' : upd H1 dx (.own x) x = none := by rw [upd_ne (fun z => ne z.symm)]; exact nx
      have ea : Ext as1 (upd H1 dx (.own x)) (as1.add x) (upd (upd H1 dx (.own x)) x (.ins (He.ga X.K c) dx [])) := Ext.freshA nx'
      have sa : Sim X.K T (st1 ++ [.ins c []]) (as1.add x) (upd (upd H1 dx (.own x)) x (.ins (He.ga X.K c) dx [])) := sf.alloc nx' ⟨dx, [], upd_same, .nil⟩
      have rx : Rep X.K (as1.add x) (upd (upd H1 dx (.own x)) x (.ins (He.ga X.K c) dx [])) (.ref st1.length) (.ref x) := by
        refine .ref ?_
        rw [← s1.len]
        unfold As.add
        dsimp only
        rw [List.getElem?_append_right (Nat.le_refl _)]
        simp
      refine ⟨by rw [List.append_nil, List.length_cons, ← r1.length, hl, hn], .ref st1.length :: ds, st1 ++ [.ins c []], as1.add x, sa, ?_, ?_⟩
      · rw [List.append_nil]
        exact .cons rx (r1.ext (ef.trans ea) s1.ok)
      · have p : Post X.K T W (Rep X.K) as1 H1 Q ((C f (.ref st1.length :: ds) (st1 ++ [.ins c []])).bind fun r st' => (match r with
          | .non => .ok (.ref st1.length) st'
          | _ => .stuck)) := p
        have p := Post.shift (ef.trans ea) p
        cases z : C f (.ref st1.length :: ds) (st1 ++ [.ins c []]) with
        | ok y st2 =>
          rw [z] at p
          intro as2 H2 b e2 s2 r2
          cases y with
          | non =>
            cases r2
            exact ⟨rfl, p as2 H2 _ e2 s2 (rx.ext e2 sa.ok)⟩
          | _ => exact p.elim
        | exc c2 st2 =>
          rw [z] at p
          exact fun as' H' e' s' => WofE_of (p as' H' e' s')
        | stuck =>
          rw [z] at p
          exact p
    | exc c st1 =>
      rw [q] at p
      exact p
    | stuck =>
      rw [q] at p
      exact p
  refine .of ?_ rfl rfl
  cases ha with
  | nil => exact absurd rfl hne
  | cons h t => exact PE.weak (pe_make hM h1 h3 hg hmg h6 .nil hx (SEs.cons h t).pa hd (star_of h.st _ X.env) (stars_any t.st)) fin
end
end Rf

/-! Rf: while an exception is handled: a list walked, its sum, a comprehension over it. -/
namespace Rf
open PySem PySem.Spec PyProof.Rows L2 HotX
section
variable {prog : Program} {w : World} {A : Around} {E : Value → Shared → Prop} {s : Shared}
theorem listEndH {it l x1 : Addr} {i : Nat} {items : Array Value} {Q : Option Value → Shared → Prop} (hot : HotAt A x1 s.heap) (hne : x1 ≠ it) (hit : s.heap.IsListIter it l i) (hl : s.heap.IsList l items) (hx : items[i]? = none)
    (hQ : ∀ h', Heap.ExtBut it s.heap h' → Q none { s with heap := h' }) : wpAny (model prog w) A (pyNext (.ref it)) Q E s := by
  obtain ⟨hh, o1, vs1, h1, d1, c1⟩ := hot
  obtain ⟨o, ho, hc, hd⟩ := id hit
  obtain ⟨ol, hol, _, nl, hdl⟩ := hl
  unfold pyNext
  refine wpAny_bind (wpAny_attempt (wpAny_callSpecial?_slot (name := Str.ofString "__next__") hit.typeIs slot_listiter_next
    (wpAny_call_entry slot_listiter_next hit.typeIs entry_listiter_next ?_ (args_listiter_next _))))
  show wpAny _ _ (field (.ref it) 0 >>= _) _ _ s
  refine wpAny_bind (wpAny_field ho hd (x := .ref l) rfl ?_)
  show wpAny _ _ (if (Value.ref l == Value.none) = true then _ else _) _ _ s
  rw [if_neg (show ¬ ((Value.ref l == Value.none) = true) from Bool.false_ne_true)]
  show wpAny _ _ (field (.ref it) 1 >>= _) _ _ s
  refine wpAny_bind (wpAny_field ho hd (x := .int i 0) rfl ?_)
  show wpAny _ _ (seqItems? (.ref l) >>= _) _ _ s
  refine wpAny_bind (wpAny_seqItems hol hdl ?_)
  simp only [Int.toNat_natCast, hx]
  refine wpAny_bind (wpAny_rule (wpAny_bind (wpAny_setField ho hd (by simp) ?_)))
  show wpAny _ _ (newExc (.type "StopIteration") [] >>= _) _ _ _
  refine wpAny_bind ?_
  simp only [newExc, newTuple]
  refine wpAny_bind (wpAny_newObj_type ?_ (by size_fits))
  refine wpAny_bind (m := firstArgMember _ _) (wpAny_of_eq (a := Value.none) (by first | rfl | (simp only [firstArgMember]; rfl)) ?_)
  refine wpAny_newObj_type ?_ (by size_fits)
  have h1' : ∀ f : Obj → Obj, (s.heap.update it f).get? x1 = some o1 := fun f => by
    rw [Heap.get?_update_other _ _ (fun e => hne e.symm)]
    exact h1
  refine raiseNew_hot ⟨hh, o1, vs1, Heap.get?_push_of_some _ (Heap.get?_push_of_some _ (h1' _)), d1, c1⟩ (Nat.ne_of_lt (Heap.lt_size (Heap.get?_push_of_some _ (h1' _)))) (Heap.get?_push_size _ rfl) rfl (by first | (simp; done) | (simp; omega) | (simp only [Array.size_append]; simp; omega)) ?_
  refine wpAny_bind (wpAny_isInstance (T := "StopIteration") (b := true) ⟨_, Heap.get?_update_self _ (Heap.get?_push_size _ rfl) rfl, rfl⟩ isSubtype_stop ?_)
  refine wpAny_pure (hQ _ fun b u hb e => ?_)
  have e2 : ∀ f : Obj → Obj, (s.heap.update it f).get? b = some u := fun f => by
    rw [Heap.get?_update_other _ _ (fun z => hb z.symm)]
    exact e
  rw [Heap.get?_update_other _ _ (Nat.ne_of_gt (Heap.lt_size (Heap.get?_push_of_some _ (e2 _))))]
  exact Heap.get?_push_of_some _ (Heap.get?_push_of_some _ (e2 _))
/-- a walk over a list -/
theorem walkH (I ax x1 : Addr) (hn : ax ≠ I) (hx : x1 ≠ I) (hh : A.handled = some (.ref x1)) (items : Array Value) :
    Walks prog w A I [I, ax, x1] [I] items.size (fun i v => items[i]? = some v) (fun i h => h.IsListIter I ax i ∧ h.IsList ax items ∧ ∃ (o : Obj) (vs : Array Value), h.get? x1 = some o ∧ o.data = .fields vs ∧ vs[2]? = some .none) where
  sub := fun b hb => by simp at hb; simp [hb]
  frame := fun _ _ _ st hk => ⟨st.1.at fun o e => hk I (by simp) o e, st.2.1.at fun o e => hk ax (by simp) o e, by
    obtain ⟨o, vs, q1, q2, q3⟩ := st.2.2
    exact ⟨o, vs, hk x1 (by simp) o q1, q2, q3⟩⟩
  item := fun i s Q E hi st hQ => by
    refine wpAny_pyNext_list_item st.1 st.2.1 (x := items[i]) (by simp [hi]) fun h' hit' hs' => ?_
    refine hQ _ h' s.toks (by simp [hi]) ⟨hit', st.2.1.extBut hs'.extBut hn, ?_⟩ fun b o hb e => hs'.extBut b o (fun h => hb (by simp [h])) e
    obtain ⟨o, vs, q1, q2, q3⟩ := st.2.2
    exact ⟨o, vs, hs'.extBut x1 o hx q1, q2, q3⟩
  done := fun s Q E st hQ => listEndH ⟨hh, st.2.2⟩ hx st.1 st.2.1 (by simp) fun h' he' => hQ h' s.toks fun b o hb e => he' b o (fun h => hb (by simp [h])) e
  self := fun _ _ _ _ st hQ => wpAny_pyIter_listiter st.1 hQ
theorem sumH {l x1 : Addr} {its : List Value} {ns : List Int} {Q : Value → Shared → Prop} (hot : HotAt A x1 s.heap) (hl : s.heap.IsList l its.toArray) (hi : IntsAre its ns)
    (h : ∀ h' tk t', (∀ b o, s.heap.get? b = some o → h'.get? b = some o) → Q (.int ns.sum t') { s with heap := h', toks := tk }) : wpAny (model prog w) A (call (.builtin "sum") [.ref l]) Q E s := by
  obtain ⟨xs, e⟩ := hi.allInts.items
  have hn : numsOf (intItems xs).toList = ns := by rw [← e]; exact hi.numsOf
  rw [nums_intItems] at hn
  rw [e] at hl
  obtain ⟨hh, o1, vs1, h1, d1, c1⟩ := hot
  have lt1 := Heap.lt_size h1
  refine call_sum_walkG (iter_intList hl fun s₂ e st hfp hlI => ?_)
  subst e
  refine ⟨_, _, _, _, _, _, numAt xs, rfl, walkH (A := A.in1) _ l x1 hlI (Nat.ne_of_lt lt1) hh (intItems xs), ⟨st.1, st.2, o1, vs1, Heap.get?_push_of_some _ h1, d1, c1⟩, fun b hb => ?_, (fun _ _ => intItems_at), fun h' tk t' hk => ?_⟩
  · rcases List.mem_cons.mp hb with z | hb
    · exact hfp b (by rw [z]; simp)
    · rcases List.mem_cons.mp hb with z | hb
      · exact hfp b (by rw [z]; simp)
      · have z : b = x1 := by simpa using hb
        rw [z]
        show x1 < (s.heap.push _).objs.size
        rw [Heap.size_push]
        exact Nat.lt_succ_of_lt lt1
  · have h2 := h h' tk t' (fun b o e => hk b o (fun hm => by
      have z : b = s.heap.objs.size := by simpa using hm
      rw [z] at e
      exact Nat.lt_irrefl _ (Heap.lt_size e)) (Heap.get?_push_of_some _ e))
    have h3 : preSum (numAt xs) (intItems xs).size = ns.sum := by
      have : (intItems xs).size = xs.size := by simp [intItems]
      rw [this, preSum_eq, List.take_of_length_le (by simp), hn]
    rw [h3]
    exact h2
end
section
variable {X : Cx}
theorem cr_sumH (hc : L2H.HotC X) : CallR X (.builtin "sum") (rSum X.K) := by
  intro pins s σ H xs us Q I r h
  obtain ⟨a, ns, rfl, hq, q⟩ := h
  obtain ⟨u, rfl, ru⟩ := r.one
  cases ru
  obtain ⟨its, rv, hl, _⟩ := I.list hq
  obtain ⟨x1, hot⟩ := hc.at I
  exact sumH hot hl.isList rv.ints fun h' tk t' hk => ⟨.int _, H, I.kept hk, ⟨_, rfl⟩, q⟩
/-- [elt for tg in iter], iter a list, while an exception is handled -/
def tLcH (K : PySem.W.Frag) (ti : TE) (g : TG) (te : TE) (vs : List Nat) : TE := fun σ H Q => ti σ H fun v H1 => ∃ a xs, v = .ref a ∧ SqL K H1 a xs ∧ ∀ D, H1 D = none → ∃ W : Nat → Hp → Prop, W 0 (upd H1 D (.lst [])) ∧ ∀ i H, W i H →
  SqL K H a xs ∧ (xs.length ≤ i → Q (.ref D) H) ∧ ∀ x, xs[i]? = some x → g x (wipe σ vs) H fun σ2 H2 => wipe σ2 vs = wipe σ vs ∧ te σ2 H2 fun y H4 => ∃ acc, H4 D = some (.lst acc) ∧ acc.length < sizeLine ∧ W (i + 1) (upd H4 D (.lst (acc ++ [y])))
theorem pe_lcH {elt tg iter : Expr} {scope : Scope} {own : List (Str × Nat)} {pos : Pos} {ti : TE} {g : TG} {te : TE} (hc : L2H.HotC X) (hN : X.N.Nodup) (hi : PE X iter ti) (ok : BlkOk X.N X.env.scope scope own)
    (hg : ∀ (s : Shared) (H : Hp) (C : Addr) (cl : List (Str × Addr)) (fp : List Addr), PG (X.blk s H scope (compEnvC scope cl C X.env) fp) tg g)
    (he : ∀ (s : Shared) (H : Hp) (C : Addr) (cl : List (Str × Addr)) (fp : List Addr), PE (X.blk s H scope (compEnvC scope cl C X.env) fp) elt te) (hs : ∀ x, foldedSetIterable iter X.env x = pure x := by intro _; rfl) :
    PE X (.ListComp elt [⟨tg, iter, [], 0⟩] scope pos) (tLcH X.K ti g te (own.map (·.2))) := by
  refine ⟨fun pins s σ H Q I h => ?_⟩
  rw [eval_ListComp]
  obtain ⟨p, hot1, hp⟩ := id hc
  have hfree : ∀ y ∈ scope.names, y.2 = .free → ∃ c, X.env.cells.lookup y.1 = some c := fun y hy e => by
    rcases ok.free y hy e with k | k
    · exact I.ok.has _ (.inl k)
    · exact I.ok.has _ (.inr k)
  refine wpAny_comprehension_free (use := none) rfl hs (closure_ok hfree) ok.kind (fun y hy e => by rw [ok.uniq y hy, e])
    (thn (hi.run pins s σ H _ I h) fun xv s1 hx => ?_)
  obtain ⟨xv', H1, I1, r1, a, xs, e, hq, cont⟩ := hx
  subst e
  cases r1
  obtain ⟨its, rv, pl, hz⟩ := I1.list hq
  refine wpAny_pyIter_list pl.isList ?_
  have hP1 := I1.pin p (List.mem_append_left _ hp)
  have lt1 : p.1 < s1.heap.objs.size := Heap.lt_size hP1.1
  have I2 : Inv X pins σ H1 { s1 with heap := s1.heap.push { cls := .type "list_iterator", data := .fields #[.ref a, .int 0 0] } } := I1.kept (t' := s1.toks) fun b o e => Heap.get?_push_of_some _ e
  have st2 : (s1.heap.push { cls := .type "list_iterator", data := .fields #[.ref a, .int 0 0] }).IsListIter s1.heap.objs.size a 0 := ⟨_, Heap.get?_push_size _ rfl, rfl, rfl⟩
  have f2 : FpOk X pins H1 s1.heap.objs.size := I1.fpOk (Nat.le_refl _) (I1.hok.fresh (Nat.le_refl _))
  have sz2 : s1.heap.objs.size < (s1.heap.push { cls := .type "list_iterator", data := .fields #[.ref a, .int 0 0] }).objs.size := by rw [Heap.size_push]; exact Nat.lt_succ_self _
  have np : p.1 ≠ s1.heap.objs.size := Nat.ne_of_lt lt1
  have hlt : ∀ b ∈ [s1.heap.objs.size], b < (s1.heap.push { cls := .type "list_iterator", data := .fields #[.ref a, .int 0 0] }).objs.size := fun b hb => by
    have z : b = s1.heap.objs.size := by simpa using hb
    rw [z]
    exact sz2
  obtain ⟨s2, hs2⟩ : ∃ s2 : Shared, s2 = { s1 with heap := s1.heap.push { cls := .type "list_iterator", data := .fields #[.ref a, .int 0 0] } } := ⟨_, rfl⟩
  obtain ⟨it, hit⟩ : ∃ it, it = s1.heap.objs.size := ⟨_, rfl⟩
  have h2 : s2.heap = s1.heap.push { cls := .type "list_iterator", data := .fields #[.ref a, .int 0 0] } := by rw [hs2]
  rw [← hs2] at I2
  rw [← h2, ← hit] at st2 sz2
  rw [← hit] at f2 np
  refine wpAny_newObj_type (newEnv_comp ?_) (by show 0 ≤ sizeLine; decide)
  rw [← hs2, ← hit]
  generalize hD : s2.heap.objs.size = D
  have hDn : H1 D = none := I2.hok.fresh (Nat.le_of_eq hD)
  obtain ⟨W, w0, turn⟩ := cont D hDn
  generalize hs3 : ({ s2 with heap := s2.heap.push { cls := .type "list", data := .seq ([] : List Value).toArray } } : Shared) = s3
  have I3 : Inv X pins σ (upd H1 D (.lst [])) s3 := by
    rw [← hs3]
    refine I2.laid (t' := s2.toks) (fun b o e => Heap.get?_push_of_some _ e) (Nat.le_of_eq hD) ⟨Nat.zero_le _, [], 0, .nil, ?_⟩
    rw [← hD]
    exact Heap.get?_push_size _ rfl
  have h3 : s3.heap = s2.heap.push { cls := .type "list", data := .seq ([] : List Value).toArray } := by rw [← hs3]
  have f3 : ∀ b ∈ [it], FpOk X pins (upd H1 D (.lst [])) b ∧ b < s3.heap.objs.size := fun b hb => by
    have z : b = it := by simpa using hb
    subst z
    refine ⟨⟨?_, f2.2⟩, by rw [h3, Heap.size_push]; exact Nat.lt_succ_of_lt sz2⟩
    rw [upd_ne (by rw [← hD]; exact Nat.ne_of_lt sz2)]
    exact f2.1
  have st3 : s3.heap.IsListIter it a 0 := st2.at fun o e => by rw [h3]; exact Heap.get?_push_of_some _ e
  have I4 := block_start I3 ok hN f3
  have pg := hg s3 (upd H1 D (.lst [])) s3.heap.objs.size (cellsFrom (s3.heap.objs.size + 1) scope.names (cloFrom X.env.cells scope.names [])) [it]
  have pe := he s3 (upd H1 D (.lst [])) s3.heap.objs.size (cellsFrom (s3.heap.objs.size + 1) scope.names (cloFrom X.env.cells scope.names [])) [it]
  show codeAny _ _ (.compStart (.ListComp elt [⟨tg, iter, [], 0⟩] scope pos) 0 (.ref it) (.ref D) (compEnvC scope (cellsFrom (s3.heap.objs.size + 1) scope.names (cloFrom X.env.cells scope.names [])) s3.heap.objs.size X.env)) (compPost (model X.prog X.w) X.A X.xe none (EP X pins σ Q) (.ref D) s3.heap.objs.size) { s3 with heap := pushCells (s3.heap.push { cls := .type "dict", data := .dict #[] }) scope.names }
  have hP3 := I3.pin p (List.mem_append_left _ hp)
  have lt3 : p.1 < s3.heap.objs.size := Heap.lt_size hP3.1
  have nst : p.1 ∉ frs X.stack := fun z => by
    rcases List.mem_cons.mp (I3.stkSub _ z) with e | e
    · exact hP3.2.2.1 e
    · exact hP3.2.2.2.1 e
  have nfp : (upd H1 D (.lst [])) it = none := (f3 it (by simp)).1.1
  generalize hce : compEnvC scope (cellsFrom (s3.heap.objs.size + 1) scope.names (cloFrom X.env.cells scope.names [])) s3.heap.objs.size X.env = ce at I4 pg pe ⊢
  have cL : ce.locals = s3.heap.objs.size := by subst hce; rfl
  generalize hH3 : upd H1 D (.lst []) = H3 at I3 I4 pg pe w0 nfp f3 hP3
  generalize hs4 : ({ s3 with heap := pushCells (s3.heap.push { cls := .type "dict", data := .dict #[] }) scope.names } : Shared) = s4 at I4 ⊢
  have k4 : ∀ b o, s3.heap.get? b = some o → s4.heap.get? b = some o := fun b o e => by rw [← hs4]; exact pushCells_keeps _ _ _ _ (Heap.get?_push_of_some _ e)
  have st4 : s4.heap.IsListIter it a 0 := st3.at fun o e => k4 it o e
  have I4p : Inv (X.blk s3 H3 scope ce [it]) [p] (wipe σ (own.map (·.2))) H3 s4 := { I4 with
    pin := fun q hq => by
      have e : q = p := by simpa using (show q ∈ ([] : List (Addr × Obj)) ++ [p] from hq)
      rw [e]
      exact ⟨k4 _ _ hP3.1, hP3.2.1, by show p.1 ≠ ce.locals; rw [cL]; exact Nat.ne_of_lt lt3, nst, hP3.2.2.2.2⟩ }
  have stat : ∀ {pn : List (Addr × Obj)} {σ' : L2.St} {H' : Hp} {s' : Shared}, (∀ q ∈ pn, q = p) → Inv (X.blk s3 H3 scope ce [it]) pn σ' H' s' → H' it = none → FpOk (X.blk s3 H3 scope ce [it]) pn H' it := fun {pn σ' H' s'} hpn I' hn =>
    ⟨hn, (I'.ok.exf it (by show it ∈ [it]; simp)).1, I'.ok.exfs it (by show it ∈ [it]; simp), .inl (by show it ∈ [it]; simp), fun x c e => (I'.ok.exf it (by show it ∈ [it]; simp)).2 x c e, fun q hq => by
      have hq : q ∈ ([] : List (Addr × Obj)) ++ pn := hq
      rw [hpn q (by simpa using hq)]
      exact np⟩
  have loop : codeAny (model X.prog X.w) X.A (.compLoop (.ListComp elt [⟨tg, iter, [], 0⟩] scope pos) 0 (.ref it) (.ref D) ce) (compPost (model X.prog X.w) X.A X.xe none (EP X pins σ Q) (.ref D) s3.heap.objs.size) s4 := by
    refine compLoop_any (fun n s' => ∃ i H', n = xs.length - i ∧ Inv (X.blk s3 H3 scope ce [it]) [p] (wipe σ (own.map (·.2))) H' s' ∧ s'.heap.IsListIter it a i ∧ H' it = none ∧ W i H') ?_ (xs.length - 0) ⟨0, H3, rfl, I4p, st4, nfp, w0⟩
    rintro n s5 ⟨i, H5, hn5, I5, st5, n5, w5⟩
    obtain ⟨sq5, stop, go⟩ := turn i H5 w5
    obtain ⟨its5, rv5, pl5, hz5⟩ := I5.list sq5
    obtain ⟨f0, f1, f2', f3', f4, f5⟩ := stat (fun q hq => by simpa using hq) I5 n5
    have hP5 := I5.pin p (by show p ∈ ([] : List (Addr × Obj)) ++ [p]; simp)
    have hl5 := rv5.length
    cases hx : xs[i]? with
    | none =>
      have hle : xs.length ≤ i := by
        rcases Nat.lt_or_ge i xs.length with z | z
        · rw [List.getElem?_eq_getElem z] at hx; cases hx
        · exact z
      obtain ⟨hh1, vs1, e1, c1⟩ := hot1
      refine listEndH (x1 := p.1) ⟨hh1, p.2, vs1, hP5.1, e1, c1⟩ np st5 pl5.isList (by simp; omega) fun h' eb => ?_
      have I6 : Inv (X.blk s3 H3 scope ce [it]) [p] (wipe σ (own.map (·.2))) H5 { s5 with heap := h' } := I5.turned (t' := s5.toks) (fun b o hb e => eb b o hb e) f0 f1 f3' f4 f5
      have I7 : Inv X pins σ H5 { s5 with heap := h' } := I3.call' (ch := [it]) I6.os I6.base I6.hok I6.bare fun b hb => ⟨(f3 b hb).1.2.2.2.1, (f3 b hb).1.2.1, (f3 b hb).1.2.2.2.2.1, (f3 b hb).1.2.2.2.2.2⟩
      have nC : H5 s3.heap.objs.size = none := by
        have z : H5 ce.locals = none := I6.free
        rw [cL] at z
        exact z
      obtain ⟨m, hn, _⟩ := I6.loc
      have hn : h'.Ns ce.locals m := hn
      rw [cL] at hn
      refine ⟨m, hn, fun h'' sb => ?_⟩
      obtain ⟨g0, g1, g2, g3, g4, g5⟩ := I3.fpOk (Nat.le_refl _) nC
      exact ⟨.ref D, H5, I7.turned (t' := s5.toks) (fun b o hb e => (sb.2 b hb).trans e) g0 g1 g3 g4 g5, rfl, stop hle⟩
    | some x =>
      obtain ⟨u, hu, ru⟩ := rv5.get hx
      refine wpAny_pyNext_list_item st5 pl5.isList (x := u) (by simpa using hu) fun h' st' sb => ?_
      have I6 : Inv (X.blk s3 H3 scope ce [it]) [p] (wipe σ (own.map (·.2))) H5 { s5 with heap := h' } := I5.turned (t' := s5.toks) (fun b o hb e => (sb.2 b hb).trans e) f0 f1 f3' f4 f5
      obtain ⟨o6, e6, c6, d6⟩ := id st'
      refine go_of (s := { s5 with heap := h' }) e6 c6 d6 (by decide) ?_
      have I7' : Inv (X.blk s3 H3 scope ce [it]) ([p] ++ pinsAt [it] h') (wipe σ (own.map (·.2))) H5 { s5 with heap := h' } := I6.pinned (fun b hb => by
        have z : b = it := by simpa using hb
        subst z
        exact stat (fun q hq => by simpa using hq) I6 n5) (fun b hb => by
        have z : b = it := by simpa using hb
        subst z
        exact ⟨o6, e6, fun v z => by rw [d6] at z; cases z⟩)
      refine thnF (pg.run _ _ _ H5 x u _ I7' ru (go x hx)) fun _ s8 ⟨σ8, H8, I8, hw8, q8⟩ => ?_
      refine wpAny_pure ?_
      simp only [if_true]
      refine thnF (pe.run _ s8 σ8 H8 _ I8 q8) fun z s10 ⟨yv, H10, I10, r10, acc, hD10, hz10, nx⟩ => ?_
      refine app_ok (X := X.blk s3 H3 scope ce [it]) I10 hD10 hz10 r10 fun s11 I11 => ?_
      have hlt : i < xs.length := (List.getElem?_eq_some_iff.mp hx).1
      have pin' : ∀ o, h'.get? it = some o → s11.heap.get? it = some o ∧ (upd H10 D (.lst (acc ++ [yv]))) it = none := fun o e =>
        let z := I11.pin (it, o) (List.mem_append_right _ (List.mem_append_right _ (mem_pinsAt (by simp) e)))
        ⟨z.1, z.2.1⟩
      have hlw : (wipe σ (own.map (·.2))).length = σ8.length := by rw [← hw8, wipe_length]
      refine ⟨xs.length - (i + 1), by omega, i + 1, _, rfl, (I11.unpinned (pins := [p])).weak hlw (fun j v e => ?_), st'.at fun o e => (pin' o e).1, (pin' o6 e6).2, nx⟩
      rw [← hw8] at e
      exact (wipe_some e).1
  exact codeAny_compStart_list loop (wpAny_pyIter_listiter st4 loop)
end
end Rf

/-! Rf: told(lambda: e): a lambda without parameters, handed to a def that calls it in a try; exceptions with no context. -/
namespace Rf
open PySem PySem.Spec PyProof.Rows L2 LamX
/-- the context of the lambda's body -/
def lamX (X : Cx) (A : Around) (outer : List Env) (s : Shared) (H : Hp) (E : XK) (scope : Scope) (f c' : Addr) : Cx :=
  (lamCx X A outer s H E scope f c').tr [] fun e s' => wpAny (model X.prog X.w) (A.deeper (lamEnv X scope s.heap.objs.size f c')) (leaving (lamEnv X scope s.heap.objs.size f c') e)
    (fun _ s'' => L2N.CX X.prog X.w outer H s E e s'') (fun e' s'' => L2N.CX X.prog X.w outer H s E e' s'') s'
section
variable {X : Cx} {pins : List (Addr × Obj)} {σ : L2.St} {H : Hp} {s : Shared}
/-- a(), in the def that was handed the lambda -/
theorem pe_deed {CXg : CXT} {Eg : XK} {Ng : List Str} {qg : Str} {sg : Scope} {g f c' : Addr} {cdg pm ctv : Value} {params : Arguments} {body : Expr} {scope : Scope} {k i : Nat} {a : Str} {pn : List (Addr × Obj)} {xe : Value → Shared → Prop} {W : WX} {E : XK} {tb : TE} {p1 p2 : Pos}
    (I : Inv X pins σ H s) (L : LamS X.env.scope scope) (hf : s.heap.get? f = some (PySem.W.kla_obj "<lambda>" (X.env.qual ++ "<lambda>") params body scope (cloFrom X.env.cells scope.names []) pm c' ctv)) (hfn : H f = none) (hfr : f ∉ frs X.stack)
    (hbind : bindArgs (PySem.W.kla_fn "<lambda>" (X.env.qual ++ "<lambda>") params body scope (cloFrom X.env.cells scope.names []) pm (.ref c') ctv) ⟨[], []⟩ = pure [])
    (tk : L2N.Takes ((cxOf CXg X.prog X.w X.K X.mg X.base Ng qg sg g cdg X.A X.stack s H Eg).tr pn xe) W) (hW : ∀ cls d (σ' : L2.St) H', σ'.length = Ng.length → E cls d H' → W cls d σ' H') (hr : Room (k + 1) (X.A.deeper (envOfC qg sg s.heap.objs.size g cdg)))
    (hbody : ∀ (A : Around) (outer : List Env) (s : Shared) (H : Hp), Room k (A.deeper (lamEnv X scope s.heap.objs.size f c')) → PE (lamX X A outer s H E scope f c') body tb)
    (hN : Ng[i]? = some a) (hv : Vis sg a) (hd : (a == ("__debug__" : Str)) = false := by decide) (hcd : (a == ("__classdict__" : Str)) = false := by decide) :
    PE ((cxOf CXg X.prog X.w X.K X.mg X.base Ng qg sg g cdg X.A X.stack s H Eg).tr pn xe) (.Call (.Name a p1) [] [] p2)
      (fun σZ HZ Q => σZ[i]? = some (some (.ref f)) ∧ HZ c' = some (CodeO c' (X.env.qual ++ "<lambda>")) ∧ tb σ HZ Q) := by
  refine ⟨fun pinsZ sZ σZ HZ Q IZ h => ?_⟩
  obtain ⟨hs, hc, ht⟩ := h
  have hv1 := (pe_var (pos := p1) (i := i) hN hv hd hcd).run pinsZ sZ σZ HZ (fun v H1 => v = .ref f ∧ H1 = HZ) IZ ⟨.ref f, hs, rfl, rfl⟩
  refine wpAny_Call_Name_kw (thn hv1 fun u s1 ⟨v, H1, I1, r1, q1⟩ => ?_)
  obtain ⟨ev, eH⟩ := q1
  subst ev
  rw [eH] at I1
  obtain rfl : u = Value.ref f := r1
  have of1 : s1.heap.get? f = some (PySem.W.kla_obj "<lambda>" (X.env.qual ++ "<lambda>") params body scope (cloFrom X.env.cells scope.names []) pm c' ctv) :=
    I1.base.keep f _ hf hfn hfr (fun z => nomatch (show f ∈ ([] : List Addr) from z))
  refine PySem.W.callWith_F0 ⟨_, _, _, _, of1⟩ ?_
  have un : Un (frs X.stack) [] H HZ s.heap s1.heap := I1.base
  obtain ⟨⟨oc, vs, t, hoc, hdc, hvc⟩, _, _⟩ := I1.hok c' _ hc
  have rc : codeAny (model X.prog X.w) (X.A.deeper (envOfC qg sg s.heap.objs.size g cdg)) (.call (.ref f) ⟨[], []⟩) (CR (L2N.CX X.prog X.w) (envOfC qg sg s.heap.objs.size g cdg :: X.stack) X.prog X.w HZ s1 Q E) s1 := by
    refine PySem.W.kla_callFunE hr.depth of1 rfl L.co L.gen rfl ⟨c', oc, vs, t, rfl, hoc, hdc, hvc⟩ ?_
    rw [hbind]
    refine wpAny_pure (wpAny_newFunctionEnv (fun y hy => (L.own y hy).2) (fun y hy => absurd hy (by simp)) (fun h₁ hns hsb => ⟨I1.nolimit.fresh _ hsb, ?_⟩) L.kind)
    show codeAny _ _ (.expr body (lamEnv X scope s1.heap.objs.size f c')) _ _
    have kp : ∀ b o, s1.heap.get? b = some o → h₁.get? b = some o := fun b o e => hsb.extBut b o (Nat.ne_of_lt (Heap.lt_size e)) (Heap.get?_push_of_some _ e)
    have J0 : Inv (lamCx X (X.A.deeper (envOfC qg sg s.heap.objs.size g cdg)) (envOfC qg sg s.heap.objs.size g cdg :: X.stack) s1 HZ E scope f c') [] σ HZ { s1 with heap := h₁, toks := s1.toks + ([] : List (Str × Value)).length } :=
      lam_start2 I L I1.env0 hr.hd un hns kp
    have J : Inv (lamX X (X.A.deeper (envOfC qg sg s.heap.objs.size g cdg)) (envOfC qg sg s.heap.objs.size g cdg :: X.stack) s1 HZ E scope f c') [] σ HZ { s1 with heap := h₁, toks := s1.toks + ([] : List (Str × Value)).length } := J0.toTry _
    refine PySem.W.kla_codeExpr (wpAny_mono ((hbody _ _ s1 HZ (hr.deeper _)).run [] _ _ HZ Q J ht) (fun v s' hq => ?_) fun e s' hq => hq)
    obtain ⟨w', H', J', rv, q⟩ := hq
    exact ⟨w', H', J'.os, J'.bare, J'.base, J'.hok, rv, q⟩
  refine wpAny_call (codeAny_mono rc fun r s' hq => ?_)
  cases r with
  | error e => exact tk e s' (L2N.XE.of_call I1 (fun cls d H' h => hW cls d σZ H' I1.len h) hq)
  | ok fl =>
    cases fl with
    | ret u => exact I1.after hq
    | next => exact False.elim hq
    | brk => exact False.elim hq
    | cont => exact False.elim hq
end
section
variable {X : Cx} {pins : List (Addr × Obj)} {σ : L2.St} {H : Hp} {s : Shared}
/-- the lambda is made; tables stay tables (turned from the library's lam_make2) -/
theorem lam_mk {T : List (Addr × Str)} {c P : Addr} {params : Arguments} {body : Expr} {scope : Scope} {pos : Pos} {E : Value → Shared → Prop} {Q : Value → Shared → Prop} (I : Inv X pins σ H s) (TB : TabB X.base X.mg c P) (hcode : X.env.code = .ref c)
    (hm : (P, X.env.qual ++ "<lambda>") ∈ T) (hu : ∀ p ∈ T, p.1 = P → p.2 = X.env.qual ++ "<lambda>") (hT : Tabs T H) (hdef : defaultsOf params X.env = ([], [])) (hfree : ∀ y ∈ scope.names, y.2 = .free → ∃ c, X.env.cells.lookup y.1 = some c)
    (h : ∀ (f c' : Addr) (pm ctv : Value) (H1 : Hp) (s' : Shared), Inv X pins σ H1 s' → ExtN H H1 → (∀ b ps, H b = some (.tbl ps) → ∃ ps', H1 b = some (.tbl ps')) → Tabs T H1 →
      s'.heap.get? f = some (PySem.W.kla_obj "<lambda>" (X.env.qual ++ "<lambda>") params body scope (cloFrom X.env.cells scope.names []) pm c' ctv) → H1 f = none → f ∉ frs X.stack → H1 c' = some (CodeO c' (X.env.qual ++ "<lambda>")) → Q (.ref f) s') :
    wpAny (model X.prog X.w) X.A (eval (.Lambda params body scope pos) X.env) Q E s := by
  obtain ⟨ps, hP, ht, ha⟩ := hT _ hm
  refine PySem.W.kla_eval hdef ?_
  have bP : s.heap.BuiltinsAt X.mg P := TB.bm.keeps I.bk
  have hP' : s.heap.get? P = some { cls := .none, data := .fields ps } := I.hok P _ hP
  have nofr : ∀ f, s.heap.objs.size ≤ f → f ∉ frs X.stack := fun f hf z => by
    rcases List.mem_cons.mp (I.stkSub _ z) with e | e
    · have h1 := I.lt
      rw [← e] at h1
      exact Nat.lt_irrefl _ (Nat.lt_of_lt_of_le h1 hf)
    · exact I.nofs hf e
  cases hc : codeAmong pos ps.toList with
  | none =>
    refine PySem.W.kla_makeFunction (mg := X.mg) (c := c) (P := P) (ps := ps) (closure_ok hfree) I.ok.glob (I.mod.glob.keeps I.bk) hcode (TB.code.keeps I.bk) hP' ht hc TB.gP bP fun c' ctv h' tk hx hge hlt hrec htb => ?_
    obtain ⟨c2, oc, vs, t, e2, hoc, hd, hv⟩ := hrec
    cases e2
    have hsz : s.heap.objs.size ≤ h'.objs.size := Nat.le_trans hge (Nat.le_of_lt hlt)
    have nC : H c' = none := I.hok.fresh hge
    have I1 := inv_table (t' := tk) (more := #[rawInt pos.line, rawInt pos.col, .ref c']) (h' := h'.push (PySem.W.kla_obj "<lambda>" (X.env.qual ++ "<lambda>") params body scope (cloFrom X.env.cells scope.names []) ((X.mg "__name__").getD .none) c' ctv)) I hP
      (fun b o hb e => Heap.get?_push_of_some _ (hx b o hb e)) (Heap.get?_push_of_some _ htb) hge ⟨oc, vs, t, Heap.get?_push_of_some _ hoc, hd, hv⟩
    have hE : ExtN H (upd (upd H P (.tbl (ps ++ #[rawInt pos.line, rawInt pos.col, .ref c']))) c' (CodeO c' (X.env.qual ++ "<lambda>"))) := fun b o e n => by
      rw [upd_ne (ne_of_none e nC), upd_ne (fun z => n ps (Option.some.inj (e.symm.trans (by rw [z]; exact hP))))]
      exact e
    have hB : ∀ b qs, H b = some (.tbl qs) → ∃ qs', (upd (upd H P (.tbl (ps ++ #[rawInt pos.line, rawInt pos.col, .ref c']))) c' (CodeO c' (X.env.qual ++ "<lambda>"))) b = some (.tbl qs') := fun b qs e => by
      rw [upd_ne (ne_of_none e nC)]
      by_cases hb : b = P
      · rw [hb, upd_same]
        exact ⟨_, rfl⟩
      · rw [upd_ne hb]
        exact ⟨qs, e⟩
    have eL : (ps ++ #[rawInt pos.line, rawInt pos.col, .ref c']).toList = ps.toList ++ [rawInt pos.line, rawInt pos.col, .ref c'] := by simp
    refine h h'.objs.size c' ((X.mg "__name__").getD .none) ctv _ _ I1 hE hB (fun p hp => ?_) (Heap.get?_push_size _ rfl) ?_ (nofr _ hsz) upd_same
    · by_cases hb : p.1 = P
      · rw [hu p hp hb, hb]
        refine ⟨_, by rw [upd_ne (ne_of_none hP nC), upd_same], by rw [eL]; exact PySem.TriplesOk_snoc _ _ _ _ ht, fun p' cv hcv => ?_⟩
        rw [eL] at hcv
        rcases among_app _ ht hcv with z | z
        · obtain ⟨c0, e1, e2⟩ := ha p' cv z
          exact ⟨c0, e1, hE _ _ e2 codeO_ne⟩
        · exact ⟨c', z, upd_same⟩
      · obtain ⟨ps', a1, a2, a3⟩ := hT p hp
        refine ⟨ps', by rw [upd_ne (ne_of_none a1 nC), upd_ne hb]; exact a1, a2, fun p' cv hcv => ?_⟩
        obtain ⟨c0, e1, e2⟩ := a3 p' cv hcv
        exact ⟨c0, e1, hE _ _ e2 codeO_ne⟩
    · have n1 : h'.objs.size ≠ c' := Nat.ne_of_gt hlt
      have n2 : h'.objs.size ≠ P := Nat.ne_of_gt (Nat.lt_of_lt_of_le (Heap.lt_size hP') hsz)
      rw [upd_ne n1, upd_ne n2]
      exact I.hok.fresh hsz
  | some cv =>
    obtain ⟨c', e, hco⟩ := ha pos cv hc
    subst e
    refine PySem.W.kla_makeFunctionHit (mg := X.mg) (c := c) (P := P) (ps := ps) (closure_ok hfree) I.ok.glob (I.mod.glob.keeps I.bk) hcode (TB.code.keeps I.bk) hP' ht hc bP fun ctv h' tk hx hsz => ?_
    have I1 : Inv X pins σ H { s with heap := h'.push (PySem.W.kla_obj "<lambda>" (X.env.qual ++ "<lambda>") params body scope (cloFrom X.env.cells scope.names []) ((X.mg "__name__").getD .none) c' ctv), toks := tk } := I.kept fun b o e => Heap.get?_push_of_some _ (hx b o e)
    exact h h'.objs.size c' ((X.mg "__name__").getD .none) ctv H _ I1 (ExtN.refl H) (fun b qs e => ⟨qs, e⟩) hT (Heap.get?_push_size _ rfl) (I.hok.fresh hsz) (nofr _ hsz) hco
end
def tLamB (T : List (Addr × Str)) (TT : (XK → Hp → VK → Prop) → Hp → VK → Prop) (t : XK → TE) : TE := fun σ H Q => Tabs T H ∧ ∀ H1, ExtN H H1 → (∀ b ps, H b = some (.tbl ps) → ∃ ps', H1 b = some (.tbl ps')) → Tabs T H1 → TT (fun E H' Q' => t E σ H' Q') H1 Q
/-- what a def makes of the deed that it is handed -/
def Gives (X : Cx) (Ng : List Str) (x : Str) (sg : Scope) (g : Addr) (cdg : Value) (bg : List Stmt) (a : Str) (q : Str) (TT : (XK → Hp → VK → Prop) → Hp → VK → Prop) : Prop :=
  ∀ (f c' : Addr) (s : Shared) (H : Hp) (Q : VK) (tl : XK → Hp → VK → Prop),
    (∀ (W : WX) (pn : List (Addr × Obj)) (xe : Value → Shared → Prop) (E : XK) (p1 p2 : Pos), L2N.Takes ((cxOf C8.CX0 X.prog X.w X.K X.mg X.base Ng x sg g cdg X.A X.stack s H C8.E0).tr pn xe) W → (∀ cls d (σ' : L2.St) H', σ'.length = Ng.length → E cls d H' → W cls d σ' H') →
      PE ((cxOf C8.CX0 X.prog X.w X.K X.mg X.base Ng x sg g cdg X.A X.stack s H C8.E0).tr pn xe) (.Call (.Name a p1) [] [] p2) (fun σZ HZ Q => σZ[0]? = some (some (.ref f)) ∧ HZ c' = some (CodeO c' q) ∧ tl E HZ Q)) →
    H c' = some (CodeO c' q) → TT tl H Q → Room 3 (X.A.deeper (envOfC x sg s.heap.objs.size g cdg)) →
    ∃ t, PSs (cxOf C8.CX0 X.prog X.w X.K X.mg X.base Ng x sg g cdg X.A X.stack s H C8.E0).nox bg t ∧ t { nx := fun _ H' => Q .non H', rt := Q } (L2.start Ng [.ref f]) H
section
variable {X : Cx}
/-- x(lambda: body) -/
theorem pe_lam {T : List (Addr × Str)} {TT : (XK → Hp → VK → Prop) → Hp → VK → Prop} {x a : Str} {g c P : Addr} {k : Nat} {pg : Arguments} {bg : List Stmt} {sg : Scope} {dV kV doc pm cdv ct oc : Value} {an od : Option Addr} {osl : Array (Option Value)} {Ng : List Str}
    {params : Arguments} {body : Expr} {scope : Scope} {t : XK → TE} {p lpos pos : Pos} (hg : Gl X x) (hm : X.mg x = some (.ref g)) (hk : PySem.W.keepIn X.K (.ref g) = true)
    (lk : X.K.lookup g = some ⟨oc, od, .func (PySem.W.fnOf x x pg bg sg dV kV doc pm an cdv ct), osl⟩) (hcg : PySem.W.codeIn X.K cdv x = true) (hb : L2.Binds X.K (PySem.W.fnOf x x pg bg sg dV kV doc pm an cdv ct) [a] []) (Sg : FnScope Ng [a] sg) (hNg : Ng[0]? = some a) (hva : Vis sg a)
    (hG : Gives X Ng x sg g cdv bg a (X.env.qual ++ "<lambda>") TT)
    (TB : TabB X.base X.mg c P) (hcode : X.env.code = .ref c) (hmT : (P, X.env.qual ++ "<lambda>") ∈ T) (hu : ∀ p ∈ T, p.1 = P → p.2 = X.env.qual ++ "<lambda>") (hr : Room (k + 2) X.A) (hk3 : 3 ≤ k + 1) (L : LamS X.env.scope scope) (hdef : defaultsOf params X.env = ([], []))
    (hbind : ∀ (q : Str) (cl : List (Str × Addr)) (pm cv ctv : Value), bindArgs (PySem.W.kla_fn "<lambda>" q params body scope cl pm cv ctv) ⟨[], []⟩ = pure [])
    (hbody : ∀ (A : Around) (outer : List Env) (s : Shared) (H : Hp) (E : XK) (f c' : Addr), Room k (A.deeper (lamEnv X scope s.heap.objs.size f c')) → PE (lamX X A outer s H E scope f c') body (t E))
    (hdb : (x == ("__debug__" : Str)) = false := by decide) (hd : (a == ("__debug__" : Str)) = false := by decide) (hcd : (a == ("__classdict__" : Str)) = false := by decide) :
    PE X (.Call (.Name x p) [.Lambda params body scope lpos] [] pos) (tLamB T TT t) := by
  refine ⟨fun pins s σ H Q I h => ?_⟩
  obtain ⟨hT, h⟩ := h
  refine wpAny_Call_Name_kw (ld_glob I hg hm ?_ hdb)
  refine PySem.W.callWith_K (h₀ := X.base) I.ok.mod.kin hk ?_ (by rfl) (by rfl)
  show wpAny _ _ (spliced ((false, eval (.Lambda params body scope lpos) X.env) :: backTo pos (starEach [] X.env))) _ _ s
  refine Calls.spliced_cons (lam_mk I TB hcode hmT hu hT hdef (L.has I.ok) fun f c' pm' ctv H1 s' I1 eN eB T1 hf hfn hfr hco => ?_)
  refine Calls.spliced_nil ⟨I1.kIn, ?_⟩
  have rc : codeAny (model X.prog X.w) X.A (.call (.ref g) ⟨[.ref f], []⟩) (CR C8.CX0 X.stack X.prog X.w H1 s' Q C8.E0) s' := by
    refine run_ofS (N := Ng) (ps := [a]) (us := [.ref f]) (vs := [.ref f]) lk hcg Sg hr I1.env0 (hb s' [.ref f] I1.kIn rfl) (.cons rfl .nil) rfl fun hr' => ?_
    obtain ⟨t', ht', hq'⟩ := hG f c' s' H1 Q (fun E H' Q' => t E σ H' Q') (fun W pn xe E p1 p2 tk hW => pe_deed (i := 0) I1 L hf hfn hfr (hbind _ _ _ _ _) tk hW hr' (fun A outer s H hr2 => hbody A outer s H E f c' hr2) hNg hva hd hcd) hco (h H1 eN eB T1) (hr'.mono hk3)
    exact ⟨t', ht'.nox, hq'⟩
  refine wpAny_call (codeAny_mono rc fun r s2 hq => ?_)
  cases r with
  | error e => exact (show False from hq).elim
  | ok fl =>
    cases fl with
    | ret u => exact I1.after hq
    | next => exact False.elim hq
    | brk => exact False.elim hq
    | cont => exact False.elim hq
end
/-! ### a def called while an exception is handled, of the very state -/
theorem run_hot {CX : CXT} {P : Program} {w : World} {K : PySem.W.Frag} {mg : Str → Option Value} {base : Heap} {k : Nat} {f : Addr} {name qual : Str} {params : Arguments} {body : List Stmt} {scope : Scope} {dV kV doc pm cdv ct oc : Value} {an od : Option Addr}
    {osl : Array (Option Value)} {N ps : List Str} (lk : K.lookup f = some ⟨oc, od, .func (PySem.W.fnOf name qual params body scope dV kV doc pm an cdv ct), osl⟩) (hcd : PySem.W.codeIn K cdv qual = true) (S : FnScope N ps scope)
    {A : Around} {outer : List Env} {s : Shared} {H : Hp} {args : Args} {us : List Value} {vs : List V} {Q : VK} {E : XK} {p : Addr × Obj} (hr : L2H.RoomH (k + 1) A) (hpin : L2H.PinOk outer H s p) (e0 : Env0 P w K mg base A outer s H)
    (hb : BindsTo s (PySem.W.fnOf name qual params body scope dV kV doc pm an cdv ct) args (ps.zip us)) (r : Vals vs us) (hl : vs.length = ps.length)
    (hbody : L2H.RoomH k (A.deeper (envOfC qual scope s.heap.objs.size f cdv)) → ∃ t, PSs (L2H.cxH CX P w K mg base N qual scope f cdv A outer s H E p) body t ∧ t { nx := fun _ H' => Q .non H', rt := Q } (L2.start N vs) H) :
    codeAny (model P w) A (.call (.ref f) args) (CR CX outer P w H s Q E) s := by
  have KX : K.In s.heap := e0.mod.kin.keeps fun b o e => (e0.bs b o e).1
  have lim : s.heap.NoLimit := e0.mod.nolimit.keeps fun b o e => (e0.bs b o e).1
  have hkind : ∀ y ∈ ps.zip us, scope.names.lookup y.1 = some .local ∨ (scope.names.lookup y.1 = some .cell ∧ ((cellsFrom (s.heap.objs.size + 1) scope.names []).lookup y.1).isSome = true) := fun ⟨n, v⟩ hy => by
    rcases S.par n (List.of_mem_zip hy).1 with q | q
    · exact .inl q
    · exact .inr ⟨q, PySem.W.cellsFrom_some _ _ _ (.inl q)⟩
  refine codeAny_call_function hr.depth (KX _ _ lk) rfl S.co S.gen rfl (PySem.W.codeRec_of KX hcd) (hb _ _ _ _ ?_)
  refine wpAny_newFunctionEnv_cells S.kind hkind fun env he s1 x => ?_
  subst he
  refine ⟨lim.keeps x.toInCall.keep, codeAny_func ?_⟩
  obtain ⟨t, ht, hq⟩ := hbody (hr.deeper _)
  have I := L2H.inv_startH (CX := CX) (E := E) (cd := cdv) S hpin e0 hl r x
  refine wpAny_mono (ht.run [] s1 (L2.start N vs) H _ I hq) (fun fl s' hs => ?_) fun e s' hs => hs
  cases fl with
  | ret u =>
    obtain ⟨v, σ', H', J, rv, q⟩ := hs
    exact ⟨v, H', J.os, J.bare, J.base, J.hok, rv, q⟩
  | next =>
    obtain ⟨σ', H', J, q⟩ := hs
    exact ⟨V.non, H', J.os, J.bare, J.base, J.hok, rfl, q⟩
  | brk =>
    obtain ⟨_, _, _, q⟩ := hs
    exact False.elim q
  | cont =>
    obtain ⟨_, _, _, q⟩ := hs
    exact False.elim q
end Rf

/-! Rf: told(lambda: e) by the evaluator. -/
namespace Rf
open PySem PySem.Spec PyProof.Rows L2 LamX
section
variable {K : PySem.W.Frag} {T : List (Addr × Str)} {st : Hs} {as : As} {H H' : Hp}
/-- objects are added, tables change -/
theorem Ext.extN (e : ExtN H H') (k : AsOk as H) (ht : ∀ b ps, H b = some (.tbl ps) → ∃ ps', H' b = some (.tbl ps')) : Ext as H as H' where
  pre := ⟨[], by simp⟩
  res1 := fun _ h => h
  res2 := fun a h n _ => absurd h n
  new := fun a h h' => absurd h h'
  keep := fun b o h _ n => e b o h n
  tbl := ht
theorem mu_tbl {o : HO} (h : IsMu o) : NoTbl o := fun ps z => by subst z; exact h
theorem Sim.extN (s : Sim K T st as H) (e : ExtN H H') (x : Ext as H as H') (t : Tabs T H') : Sim K T st as H' where
  len := s.len
  nd := s.nd
  rn := s.rn
  rs := fun a ha => by
    obtain ⟨h1, vs, h2⟩ := s.rs a ha
    exact ⟨h1, vs, e a _ h2 fun ps z => by cases z⟩
  obj := fun n o a h1 h2 => (s.obj n o a h1 h2).ext x s.ok (by
    obtain ⟨u, hu, m⟩ := s.ok a (List.mem_of_getElem? h2)
    rw [hu, e a u hu (mu_tbl m)])
  tab := t
theorem Ext.grew (e : ∀ b o, H b = some o → H' b = some o) : Ext as H as H' where
  pre := ⟨[], by simp⟩
  res1 := fun _ h => h
  res2 := fun a h n _ => absurd h n
  new := fun a h h' => absurd h h'
  keep := fun b o h _ n => e b o h
  tbl := fun b ps h => ⟨ps, e b _ h⟩
theorem Sim.grew (s : Sim K T st as H) (e : ∀ b o, H b = some o → H' b = some o) : Sim K T st as H' := s.extN (ExtN.of e) (Ext.grew e) (s.tab.ext e)
end
/-- told: what the deed gives, or the exception's name -/
def TTell (K : PySem.W.Frag) : (XK → Hp → VK → Prop) → Hp → VK → Prop := fun tl H Q =>
  tl (fun cls d H' => d = none ∧ ∃ c, toldB c = true ∧ cls = .ref (He.ga K c) ∧ ∀ H'' t, (∀ b o, H' b = some o → H'' b = some o) → H'' t = some (.tup [.str "error", .str c]) → Q (.ref t) H'') H Q
structure ToldF (P : Program) (w : World) (K : PySem.W.Frag) (mg : Str → Option Value) (base : Heap) : Prop where
  ok : ∃ (g : Addr) (pg : Arguments) (bg : List Stmt) (sg : Scope) (dV kV doc pm cdv ct oc : Value) (an od : Option Addr) (osl : Array (Option Value)) (Ng : List Str),
    mg "_law_told" = some (.ref g) ∧ PySem.W.keepIn K (.ref g) = true ∧ K.lookup g = some ⟨oc, od, .func (PySem.W.fnOf "_law_told" "_law_told" pg bg sg dV kV doc pm an cdv ct), osl⟩ ∧ PySem.W.codeIn K cdv "_law_told" = true ∧
    L2.Binds K (PySem.W.fnOf "_law_told" "_law_told" pg bg sg dV kV doc pm an cdv ct) [("deed" : Str)] [] ∧ FnScope Ng [("deed" : Str)] sg ∧ Ng[0]? = some ("deed" : Str) ∧ Vis sg "deed" ∧
    ∀ X : Cx, X.prog = P → X.w = w → X.K = K → X.mg = mg → X.base = base → ∀ q, Gives X Ng "_law_told" sg g cdv bg "deed" q (TTell K)
/-- the def whose code runs makes lambdas -/
structure LamK (X : Cx) (T : List (Addr × Str)) : Prop where
  ok : ∃ c P, TabB X.base X.mg c P ∧ X.env.code = .ref c ∧ (P, X.env.qual ++ "<lambda>") ∈ T ∧ (∀ p ∈ T, p.1 = P → p.2 = X.env.qual ++ "<lambda>")
def noArgs : Arguments → Bool
  | ⟨[], [], none, [], [], none, []⟩ => true
  | _ => false
theorem noArgs_ok {a : Arguments} (h : noArgs a = true) : a = ⟨[], [], none, [], [], none, []⟩ := by
  unfold noArgs at h
  split at h
  · rfl
  · cases h
section
variable {X : Cx} {T : List (Addr × Str)} {W : Str → Hp → Prop} {C : Calls} {F : Nat} {i : E}
theorem s_told {k : Nat} {params : Arguments} {body : Expr} {scope : Scope} {p lpos pos : Pos} (hF : ToldF X.prog X.w X.K X.mg X.base) (hL : LamK X T) (hg : Gl X "_law_told") (hr : Room (k + 2) X.A) (hk3 : 3 ≤ k + 1) (L : LamS X.env.scope scope) (hn : noArgs params = true)
    (hb : ∀ (A : Around) (outer : List Env) (s : Shared) (H : Hp) (E : XK) (f c' : Addr), Room k (A.deeper (lamEnv X scope s.heap.objs.size f c')) → SE (lamX X A outer s H E scope f c') T (WofE X.K E) C F body i) :
    SE X T W C F (.Call (.Name "_law_told" p) [.Lambda params body scope lpos] [] pos) (.told i) := by
  obtain ⟨g, pg, bg, sg, dV, kV, doc, pm, cdv, ct, oc, an, od, osl, Ng, h1, h2, h3, h4, h5, h6, h7, h8, h9⟩ := hF.ok
  obtain ⟨c, P, t1, t2, t3, t4⟩ := hL.ok
  have hp := noArgs_ok hn
  subst hp
  refine .of (PE.weak (pe_lam (t := fun E => tE X T (WofE X.K E) C F i) hg h1 h2 h3 h4 h5 h6 h7 h8 (h9 X rfl rfl rfl rfl rfl _) t1 t2 t3 t4 hr hk3 L rfl (fun _ _ _ _ _ => rfl) fun A outer s H E f c' r => (hb A outer s H E f c' r).pe) fun σ H Q ⟨ρ, st, as, s, r, p⟩ => ⟨s.tab, fun H1 eN eB T1 => ?_⟩) rfl rfl
  have ex : Ext as H as H1 := Ext.extN eN s.ok eB
  refine ⟨ρ, st, as, s.extN eN ex T1, r.ext ex s.ok, ?_⟩
  have p : Post X.K T W (Rep X.K) as H Q (match evE C F i ρ st with
    | .ok d st => .ok d st
    | .exc c st => if toldB c = true then .ok (.tup [.str "error", .str c]) st else .stuck
    | .stuck => .stuck) := p
  cases q : evE C F i ρ st with
  | ok d st1 =>
    rw [q] at p
    exact Post.shift ex (show Post X.K T (WofE X.K _) (Rep X.K) as H Q (.ok d st1) from p)
  | exc c st1 =>
    rw [q] at p
    intro as' H' e' s'
    dsimp only at p
    split at p
    · rename_i hc
      refine ⟨rfl, c, hc, rfl, fun H'' t k ht => ?_⟩
      refine p as' H'' _ ((ex.trans e').trans (Ext.grew k)) (s'.grew k) (.tup (vs := [.str "error", .str c]) (.inl (.inl ht)) (.cons (.str _) (.cons (.str _) .nil)))
    · exact p.elim
  | stuck =>
    rw [q] at p
    exact p.elim
end
end Rf

/-! Rf: len(o), a == b by a class's own defs; isinstance(a, C). -/
namespace Rf
open PySem PySem.Spec PyProof.Rows L2
/-- what is asked of a class of the program -/
def ownB (K : PySem.W.Frag) (c : Str) : Bool :=
  He.eqO (PySem.W.findIn K (.ref (He.ga K c)) "__class__") (some (some (.builtin "object.__class__"))) && (He.eqO (PySem.W.specialIn K (.builtin "object.__class__") "__get__") (some (some (.builtin "getset_descriptor.__get__"))) &&
  (decide (PySem.W.takesIn K (.builtin "object.__class__") = some true) && (decide (PySem.W.mroIn K (He.ga K c) (.type "object") = some true) && (decide (PySem.W.kitOne K (.ref (He.ga K c)) (.ref (He.ga K c)) = some true) &&
  (decide (PySem.W.kitOne K (.type "int") (.ref (He.ga K c)) = some false) && PySem.W.notFirst K (He.ga K c) (.type "int"))))))
structure OwnC (K : PySem.W.Frag) (C : Addr) : Prop where
  ha : PySem.W.findIn K (.ref C) "__class__" = some (some (.builtin "object.__class__"))
  hn : PySem.W.specialIn K (.builtin "object.__class__") "__get__" = some (some (.builtin "getset_descriptor.__get__"))
  htk : PySem.W.takesIn K (.builtin "object.__class__") = some true
  hm : PySem.W.mroIn K C (.type "object") = some true
  me : PySem.W.kitOne K (.ref C) (.ref C) = some true
  int : PySem.W.kitOne K (.type "int") (.ref C) = some false
  nf : PySem.W.notFirst K C (.type "int") = true
theorem ownC_of {K : PySem.W.Frag} {c : Str} (h : ownB K c = true) : OwnC K (He.ga K c) := by
  obtain ⟨h1, h⟩ := bnd h
  obtain ⟨h2, h⟩ := bnd h
  obtain ⟨h3, h⟩ := bnd h
  obtain ⟨h4, h⟩ := bnd h
  obtain ⟨h5, h⟩ := bnd h
  obtain ⟨h6, h7⟩ := bnd h
  exact ⟨He.eqO_ok h1, He.eqO_ok h2, of_decide_eq_true h3, of_decide_eq_true h4, of_decide_eq_true h5, of_decide_eq_true h6, h7⟩
theorem ins_at {st : Hs} {d : D} {c : Str} (h : insOf st d = some c) : ∃ n fs, d = .ref n ∧ st[n]? = some (.ins c fs) := by
  cases d with
  | ref n =>
    simp only [insOf] at h
    split at h
    · rename_i c' fs hx
      cases h
      exact ⟨n, fs, rfl, hx⟩
    · cases h
  | _ => cases h
section
variable {X : Cx} {T : List (Addr × Str)} {W : Str → Hp → Prop} {C : Calls} {F : Nat} {tg e a b : Expr} {i ia ib : E} {pos p : Pos}
/-! ### isinstance(a, C) -/
theorem s_isC {c : Str} {p2 : Pos} (ha : SE X T W C F a ia) (hc : Cls X.K (He.ga X.K c)) (ho : OwnC X.K (He.ga X.K c)) (hg : Gl X "isinstance") (hm : X.mg "isinstance" = none) (hg2 : Gl X c) (hm2 : X.mg c = some (.ref (He.ga X.K c))) (hd : (c == ("__debug__" : Str)) = false) :
    SE X T W C F (.Call (.Name "isinstance" p) [a, .Name c p2] [] pos) (.isC c ia) := by
  have h2 : PE X (.Name c p2) (tC (.ref (He.ga X.K c))) := pe_glob hg2 hm2 rfl hd
  refine .of (PE.weak (pe_callB (id := "isinstance") call_isi hg hm (by decide +kernel) (pa_cons ha.pe (pa_cons h2 pa_nil (star_of rfl [] X.env)) (star_of ha.st _ X.env)) (he := star_of ha.st _ X.env) (hpl := stars_any rfl)) fun σ H Q ⟨ρ, st, as, s, q, p⟩ => ?_) rfl rfl
  refine ⟨ρ, st, as, s, q, Post.bind (R := Rep X.K) (show Post X.K T W (Rep X.K) as H Q ((evE C F ia ρ st).bind _) from p) fun x st1 as1 H1 v e1 s1 r1 p1 => ?_⟩
  obtain ⟨z, hz, p1⟩ := p1.ok1
  obtain ⟨r, hr, rfl⟩ := Option.map_eq_some_iff.mp hz
  have key : ∃ u, TyX X.K H1 v u ∧ PySem.W.kitOne X.K u (.ref (He.ga X.K c)) = some r := by
    by_cases hi : insOf st1 x = some c
    · obtain ⟨n, fs, rfl, hx⟩ := ins_at hi
      simp only [isCV] at hr
      rw [if_pos hi] at hr
      cases hr
      obtain ⟨l, g1, g2, dx, vs, g3, g4⟩ := s1.at hx
      cases r1 with
      | ref q =>
        rw [g1] at q
        cases q
        exact ⟨_, .base (.ins g3 hc ho.ha ho.hn ho.htk ho.hm), ho.me⟩
    · cases x with
      | int j =>
        cases r1
        cases hr
        exact ⟨_, .base (.int j), ho.int⟩
      | _ =>
        simp only [isCV] at hr
        rw [if_neg hi] at hr
        cases hr
  obtain ⟨u, h3, h4⟩ := key
  exact ⟨v, .ref (He.ga X.K c), u, .ref (He.ga X.K c), r, rfl, .own _, h3, h4, p1.here s1 (.bl _)⟩
/-! ### a == b -/
def rEqO (K : PySem.W.Frag) (Cl : Addr) (sp : Sp) (E : XK) : R2 := fun x y H Q => ∃ a dx fs, x = .ref a ∧ H a = some (.ins Cl dx fs) ∧ ((∃ i, y = .int i) ∨ ∃ b dy gs, y = .ref b ∧ H b = some (.ins Cl dy gs)) ∧ sp [x, y] H (fun v H' => ∃ k, v = .bl k ∧ Q v H') E
theorem op_eqO {CX : CXT} {Cl f : Addr} {fd : FuncData} {ps : List Str} {k : Nat} {sp : Sp} {E : XK} (Fk : FnOk X.prog X.w X.K X.mg X.base CX k f fd ps sp) (ho : OwnC X.K Cl) (hm : Meth X.K Cl "__eq__" f) (hr : Room k X.A) (hb : Binds X.K fd ps []) (hx : Passes CX X E) : OpR X (compareOp .Eq) (rEqO X.K Cl sp E) := by
  intro pins s σ H x y v u Q I rx ry hq
  obtain ⟨a, dx, fs, rfl, ha, hy, hsp⟩ := hq
  have rx' := rx
  cases rx
  obtain ⟨mA, J, _⟩ := ins_get I.hok ha
  obtain ⟨od, J, _⟩ := J.look
  obtain ⟨m, hF⟩ := I.fr
  show wpAny (model X.prog X.w) X.A (richCompare .Eq (.ref a) u) (EP X pins σ Q) X.xe s
  have run : wpAny (model X.prog X.w) X.A (call (.ref f) [.ref a, u]) (PySem.W.CmpBack (EP X pins σ Q)) X.xe s := by
    refine wpAny_mono (run_fn (us := [.ref a, u]) (vs := [.ref a, y]) Fk hr hb .nil hx I (.cons rx' (.cons ry .nil)) hsp) (fun r s' h => ?_) fun _ _ h => h
    obtain ⟨z, H', I', rz, ⟨k, hz, q⟩⟩ := h
    subst hz
    cases rz
    exact ⟨.bl k, H', I', rfl, q⟩
  rcases hy with ⟨j, rfl⟩ | ⟨b, dy, gs, rfl, hb'⟩
  · obtain ⟨t, rfl⟩ := (show ∃ t, u = Value.int j t from ry)
    exact PySem.W.cmp_K (op := .Eq) (tb := .type "int") hr.units0 hF I.ok.mod.kin J .now ho.nf hm.at_ hm.fn run
  · cases ry
    obtain ⟨mB, J', _⟩ := ins_get I.hok hb'
    obtain ⟨od', J', _⟩ := J'.look
    exact PySem.W.cmp_K (op := .Eq) (tb := .ref Cl) hr.units0 hF I.ok.mod.kin J J'.type (by simp [PySem.W.notFirst]) hm.at_ hm.fn run
theorem eqO_of {c : Str} {f : Nat} {σ : L2.St} {H : Hp} {Q : VK} (h : tE X T W C F (.eqO c f ia ib) σ H Q) : tOp (rEqO X.K (He.ga X.K c) (spOf X.K T C f 2) (EofW X.K W)) (tE X T W C F ia) (tE X T W C F ib) σ H Q := by
  obtain ⟨ρ, st, as, s, q, p⟩ := h
  refine ⟨ρ, st, as, s, q, Post.bind (R := Rep X.K) (show Post X.K T W (Rep X.K) as H Q ((evE C F ia ρ st).bind _) from p) fun x st1 as1 H1 v e1 s1 r1 p1 => ?_⟩
  refine ⟨ρ, st1, as1, s1, q.ext e1 s.ok, Post.bind (R := Rep X.K) p1 fun y st2 as2 H2 u e2 s2 r2 p2 => ?_⟩
  split at p2
  · rename_i hc
    obtain ⟨c1, c2⟩ := bnd hc
    obtain ⟨n, fs, rfl, hn⟩ := ins_at (of_decide_eq_true c1)
    obtain ⟨l, g1, g2, dx, vs, g3, g4⟩ := s2.at hn
    have rx := r1.ext e2 s1.ok
    cases rx with
    | ref q =>
      rw [g1] at q
      cases q
      refine ⟨l, dx, vs, rfl, g3, ?_, ?_⟩
      · by_cases hi : insOf st2 y = some c
        · obtain ⟨n', fs', rfl, hn'⟩ := ins_at hi
          obtain ⟨l', g1', g2', dx', vs', g3', g4'⟩ := s2.at hn'
          cases r2 with
          | ref q' =>
            rw [g1'] at q'
            cases q'
            exact .inr ⟨l', dx', vs', rfl, g3'⟩
        · cases y with
          | int j =>
            cases r2
            exact .inl ⟨j, rfl⟩
          | _ =>
            simp only [eqOk] at c2
            exact absurd (of_decide_eq_true c2) hi
      · refine ⟨rfl, [.ref n, y], st2, as2, s2, .cons (.ref g1) (.cons r2 .nil), ?_⟩
        cases z : C f [.ref n, y] st2 with
        | ok w st3 =>
          rw [z] at p2
          intro as3 H3 w' e3 s3 r3
          cases w with
          | bl k =>
            have p2 : Post X.K T W (Rep X.K) as2 H2 Q (.ok (.bl k) st3) := p2
            cases r3
            exact ⟨k, rfl, p2 as3 H3 _ e3 s3 (.bl k)⟩
          | _ => exact p2.elim
        | exc c2 st3 =>
          rw [z] at p2
          exact fun as' H' e' s' => WofE_of (p2 as' H' e' s')
        | stuck =>
          rw [z] at p2
          exact p2
  · exact p2.elim
theorem s_eqO {c : Str} {R f : Nat} (ha : SE X T W C F a ia) (hb : SE X T W C F b ib) (ho : OwnC X.K (He.ga X.K c)) (hm : Meth X.K (He.ga X.K c) "__eq__" (He.fAd X.K (c, some "__eq__"))) (hf : FnK X T C R f (c, some "__eq__") 2) (h3 : Room R X.A) (hx : Passes (L2N.CX X.prog X.w) X (EofW X.K W)) (hk : behindInMarks .Eq b = false) :
    SE X T W C F (.Compare a [.Eq] [b] pos) (.eqO c f ia ib) := by
  obtain ⟨fd, ps, h1, h2, h6⟩ := hf.ok
  have key : ∀ (σ : L2.St) (H : Hp) (Q : VK), tE X T W C F (.eqO c f ia ib) σ H Q → tOp (rEqO X.K (He.ga X.K c) (spOf X.K T C f 2) (EofW X.K W)) (tE X T W C F ia) (tE X T W C F ib) σ H Q := by
    exact fun σ H Q h => eqO_of h
  exact ⟨PE.weak (pe_cmpR (op_eqO h1 ho hm h3 h6 hx) ha.pe hb.pe hk) key, PT.weak (pt_cmpR (op_eqO h1 ho hm h3 h6 hx) ha.pe hb.pe hk) fun σ H Q h => key σ H _ (tT_tE h), rfl⟩
/-! ### len(o) -/
theorem call_lenO {CX : CXT} {Cl f : Addr} {fd : FuncData} {ps : List Str} {k : Nat} {sp : Sp} {E : XK} (Fk : FnOk X.prog X.w X.K X.mg X.base CX k f fd ps sp) (hm : Meth X.K Cl "__len__" f) (hr : Room (k + 1) X.A) (hb : Binds X.K fd ps []) (hx : Passes CX X E) :
    CallR X (.builtin "len") (fun xs H Q => ∃ a dx fs, xs = [.ref a] ∧ H a = some (.ins Cl dx fs) ∧ sp [.ref a] H (fun v H' => ∃ j : Int, v = .int j ∧ (0 ≤ j ∧ j < 2 ^ 63) ∧ Q v H') E) := by
  intro pins s σ H xs us Q I r h
  obtain ⟨a, dx, fs, rfl, ha, hsp⟩ := h
  have r0 := r
  cases r with
  | cons r1 r2 =>
  cases r2
  cases r1
  obtain ⟨mA, J, _⟩ := ins_get I.hok ha
  obtain ⟨od, J, _⟩ := J.look
  obtain ⟨m, hF⟩ := I.fr
  refine PySem.W.len_K hF I.ok.mod.kin J hm.at_ hm.fn ?_
  have hl := Fk.len _ _ _ _ hsp
  have r2 : Vals [V.ref a] [Value.ref a] := .cons rfl .nil
  refine wpAny_call (codeAny_mono (Fk.run X.A.in1 X.stack s H ⟨[.ref a], []⟩ [.ref a] [.ref a] _ E hr.in1 I.env0.in1 (by
    have := hb s [.ref a] I.kIn (by simpa using hl)
    simpa using this) r2 hsp) fun r s' hq => ?_)
  cases r with
  | error e => exact hx pins σ H s e s' I hq
  | ok fl =>
    cases fl with
    | ret w =>
      obtain ⟨z, H', I', rz, ⟨j, hj, hb2, q⟩⟩ := I.after hq
      subst hj
      obtain ⟨t, rfl⟩ := (show ∃ t, w = Value.int j t from rz)
      exact ⟨hb2, ⟨.int j, H', I'.tok _, ⟨_, rfl⟩, q⟩⟩
    | next => exact False.elim hq
    | brk => exact False.elim hq
    | cont => exact False.elim hq
theorem s_lenO {c : Str} {R f : Nat} (ha : SE X T W C F a ia) (hm : Meth X.K (He.ga X.K c) "__len__" (He.fAd X.K (c, some "__len__"))) (hf : FnK X T C R f (c, some "__len__") 1) (h3 : Room (R + 1) X.A) (hx : Passes (L2N.CX X.prog X.w) X (EofW X.K W))
    (hg : Gl X "len") (hm2 : X.mg "len" = none) : SE X T W C F (.Call (.Name "len" p) [a] [] pos) (.lenO c f ia) := by
  obtain ⟨fd, ps, h1, h2, h6⟩ := hf.ok
  refine .of (PE.weak (pe_callB (id := "len") (call_lenO h1 hm h3 h6 hx) hg hm2 (by decide +kernel) (pa_cons ha.pe pa_nil (star_of ha.st _ X.env)) (he := star_of ha.st _ X.env) (hpl := stars_any rfl)) fun σ H Q ⟨ρ, st, as, s, q, p⟩ => ?_) rfl rfl
  refine ⟨ρ, st, as, s, q, Post.bind (R := Rep X.K) (show Post X.K T W (Rep X.K) as H Q ((evE C F ia ρ st).bind _) from p) fun x st1 as1 H1 v e1 s1 r1 p1 => ?_⟩
  split at p1
  · rename_i c1
    obtain ⟨n, fs, rfl, hn⟩ := ins_at c1
    obtain ⟨l, g1, g2, dx, vs, g3, g4⟩ := s1.at hn
    cases r1 with
    | ref q =>
      rw [g1] at q
      cases q
      refine ⟨l, dx, vs, rfl, g3, rfl, [.ref n], st1, as1, s1, .cons (.ref g1) .nil, ?_⟩
      cases z : C f [.ref n] st1 with
      | ok w st3 =>
        rw [z] at p1
        intro as3 H3 w' e3 s3 r3
        cases w with
        | int j =>
          have p1 : Post X.K T W (Rep X.K) as1 H1 Q (if decide (0 ≤ j) && decide (j < 1000000) then .ok (.int j) st3 else .stuck) := p1
          split at p1
          · rename_i hj
            obtain ⟨j1, j2⟩ := bnd hj
            have j1 := of_decide_eq_true j1
            have j2 := of_decide_eq_true j2
            cases r3
            exact ⟨j, rfl, ⟨j1, by omega⟩, p1 as3 H3 _ e3 s3 (.int j)⟩
          · exact p1.elim
        | _ => exact p1.elim
      | exc c2 st3 =>
        rw [z] at p1
        exact fun as' H' e' s' => WofE_of (p1 as' H' e' s')
      | stuck =>
        rw [z] at p1
        exact p1
  · exact p1.elim
end
end Rf

/-! Rf: the checker: is the text what the little language says? -/
namespace Rf
open PySem PySem.Spec PyProof.Rows L2
/-- the module's names: not bound there (built-ins); gints; tuples of texts; defs by number with how many parameters; exception classes -/
structure Gd where
  free : List Str
  gints : List (Str × Int)
  tups : List (Str × List Str)
  /-- by number: a def of the module, a method; how many parameters -/
  fns : List (Option ((Str × Option Str) × Nat))
  excs : List Str
  classes : List Str
  flds : List (Str × Str)
/-- where code stands: names, scope, whose cells are its own -/
structure Site where
  N : List Str
  sc : Scope
  fn : Str → Bool
  /-- a def that makes lambdas -/
  lam : Bool
def Site.blk (L : Site) (scope : Scope) : Site := ⟨L.N, relS scope L.sc, fun x => scope.names.lookup x == some .cell, false⟩
def Site.lamS (L : Site) (scope : Scope) : Site := ⟨L.N, scope, fun _ => false, false⟩
def visB (sc : Scope) (x : Str) : Bool := match sc.names.lookup x with
  | some .local => true
  | some .cell => true
  | some .free => true
  | _ => false
def locB (sc : Scope) (x : Str) : Bool := match sc.names.lookup x with
  | some .local => true
  | some .cell => true
  | _ => false
def glB (sc : Scope) (x : Str) : Bool := decide (sc.names.lookup x = some .globalImplicit)
def plainB (x : Str) : Bool := !(x == ("__debug__" : Str)) && !(x == ("__classdict__" : Str))
def stB (L : Site) (x : Str) : Bool := locB L.sc x && (L.fn x || decide (L.sc.names.lookup x = some .local))
def bltB (G : Gd) (sc : Scope) (x : Str) : Bool := glB sc x && G.free.contains x
/-- own slots of a block -/
def ownOf (N : List Str) (own : List Nat) : List (Str × Nat) := own.map fun i => ((N[i]?).getD Str.empty, i)
def blkB (N : List Str) (sc scope : Scope) (own : List Nat) : Bool :=
  decide (scope.kind = .function) && (scope.names.all fun y => decide (scope.names.lookup y.1 = some y.2)) && (own.all fun i => (N[i]?).isSome) &&
  (scope.names.all fun y => if y.2 = .free then decide (sc.names.lookup y.1 = some .cell) || decide (sc.names.lookup y.1 = some .free) else true) &&
  (scope.names.all fun y => if y.2 = .local ∨ y.2 = .cell then ((ownOf N own).map (·.1)).contains y.1 || !N.contains y.1 else true)
def noSetE : Expr → Bool
  | .Set _ _ _ => false
  | _ => true
mutual
def chkE (G : Gd) (L : Site) : Rf.E → Expr → Bool
  | .k c, e => (match e, c with
    | .Constant (.int n) _ _, .int m => decide (n = m)
    | .Constant (.bool n) _ _, .bl m => decide (n = m)
    | .Constant .none _ _, .non => true
    | .Constant (.str n) _ _, .str m => decide (n = m)
    | _, _ => false)
  | .v i, e => (match e with
    | .Name x _ => decide (L.N[i]? = some x) && visB L.sc x && plainB x
    | _ => false)
  | .gi x n, e => (match e with
    | .Name y _ => decide (x = y) && glB L.sc x && plainB x && G.gints.any fun p => decide (p.1 = x) && decide (p.2 = n)
    | _ => false)
  | .gt x ts, e => (match e with
    | .Name y _ => decide (x = y) && glB L.sc x && plainB x && G.tups.any fun p => decide (p.1 = x) && decide (p.2 = ts)
    | _ => false)
  | .tup es, e => (match e with
    | .Tuple xs _ _ => chkEs G L es xs && Nat.ble xs.length 10000
    | _ => false)
  | .ofL l, e => chkL G L l e
  | .alloc l, e => chkL G L l e
  | .bin op a b, e => (match e with
    | .BinOp x o y _ => decide (o = op.py) && chkE G L a x && chkE G L b y
    | _ => false)
  | .neg a, e => (match e with
    | .UnaryOp .USub x _ => chkE G L a x
    | _ => false)
  | .not a, e => (match e with
    | .UnaryOp .Not x _ => chkE G L a x
    | _ => false)
  | .cmp op a b, e => (match e with
    | .Compare x [o] [y] _ => decide (o = op.py) && !behindInMarks op.py y && chkE G L a x && chkE G L b y
    | _ => false)
  | .chain o1 o2 a b c, e => (match e with
    | .Compare x [p1, p2] [y, z] _ => decide (p1 = o1.py) && decide (p2 = o2.py) && !lastMarks [o1.py, o2.py] [y, z] && chkE G L a x && chkE G L b y && chkE G L c z
    | _ => false)
  | .isN a, e => (match e with
    | .Compare x [.Is] [.Constant .none _ _] _ => chkE G L a x
    | _ => false)
  | .notN a, e => (match e with
    | .Compare x [.IsNot] [.Constant .none _ _] _ => chkE G L a x
    | _ => false)
  | .bop conj es, e => (match e with
    | .BoolOp o xs _ => decide (o = bopPy conj) && !xs.isEmpty && chkEs G L es xs
    | _ => false)
  | .ife c a b, e => (match e with
    | .IfExp x y z _ => chkE G L c x && chkE G L a y && chkE G L b z
    | _ => false)
  | .ix a b, e => (match e with
    | .Subscript x y _ => noSlice y && chkE G L a x && chkE G L b y
    | _ => false)
  | .sl a lo hi, e => (match e with
    | .Subscript x (.Slice l h none _) _ => chkE G L a x && chkO G L lo l && chkO G L hi h
    | _ => false)
  | .rev a, e => (match e with
    | .Subscript x (.Slice none none (some (.UnaryOp .USub (.Constant (.int n) _ _) _)) _) _ => decide (n = 1) && chkE G L a x
    | _ => false)
  | .blt f es, e => (match e with
    | .Call (.Name x _) (y :: ys) [] _ => decide (x = f.py) && bltB G L.sc f.py && chkEs G L es (y :: ys)
    | _ => false)
  | .isi a t, e => (match e with
    | .Call (.Name f _) [y, .Name tn _] [] _ => decide (f = ("isinstance" : Str)) && bltB G L.sc "isinstance" && (match t.py with
      | some n => decide (tn = Str.ofString n) && bltB G L.sc (Str.ofString n)
      | none => false) && chkE G L a y
    | _ => false)
  | .idx a b, e => (match e with
    | .Call (.Attribute x m ap) [y] [] cp => decide (m = ("index" : Str)) && okBase x && (ap.endLine == cp.line) && chkE G L a x && chkE G L b y
    | _ => false)
  | .call f es, e => (match e with
    | .Call (.Name x _) xs [] _ => decide (G.fns[f]? = some (some ((x, none), xs.length))) && glB L.sc x && plainB x && chkEs G L es xs
    | _ => false)
  | .make c f es, e => (match e with
    | .Call (.Name x _) xs [] _ => decide (x = c) && decide (G.fns[f]? = some (some ((c, some ("__init__" : Str)), xs.length + 1))) && G.classes.contains c && glB L.sc c && plainB c && !xs.isEmpty && chkEs G L es xs
    | _ => false)
  | .meth c m f o es, e => (match e with
    | .Call (.Attribute x m' ap) xs [] cp => decide (m' = m) && decide (G.fns[f]? = some (some ((c, some m), xs.length + 1))) && G.classes.contains c && okBase x && (ap.endLine == cp.line) && Nat.blt xs.length 20 && chkE G L o x && chkEs G L es xs
    | _ => false)
  | .fld c o f, e => (match e with
    | .Attribute x f' _ => decide (f' = f) && G.classes.contains c && G.flds.contains (c, f) && okBase x && chkE G L o x
    | _ => false)
  | .told i, e => (match e with
    | .Call (.Name x _) [.Lambda params body scope _] [] _ => decide (x = ("_law_told" : Str)) && L.lam && glB L.sc "_law_told" && LamX.lamSB L.sc scope && noArgs params && chkE G (L.lamS scope) i body
    | _ => false)
  | .gd _ _ _, _ => false
  | .rngT _, _ => false
  | .lenO c f o, e => (match e with
    | .Call (.Name x _) [y] [] _ => decide (x = ("len" : Str)) && bltB G L.sc "len" && decide (G.fns[f]? = some (some ((c, some ("__len__" : Str)), 1))) && chkE G L o y
    | _ => false)
  | .eqO c f a b, e => (match e with
    | .Compare x [o] [y] _ => decide (o = .Eq) && !behindInMarks .Eq y && decide (G.fns[f]? = some (some ((c, some ("__eq__" : Str)), 2))) && G.classes.contains c && chkE G L a x && chkE G L b y
    | _ => false)
  | .isC c a, e => (match e with
    | .Call (.Name f _) [y, .Name tn _] [] _ => decide (f = ("isinstance" : Str)) && bltB G L.sc "isinstance" && decide (tn = c) && G.classes.contains c && glB L.sc c && plainB c && chkE G L a y
    | _ => false)
def chkEs (G : Gd) (L : Site) : Es → List Expr → Bool
  | .nil, es => (match es with
    | [] => true
    | _ => false)
  | .cons i is, es => (match es with
    | e :: es => chkE G L i e && chkEs G L is es
    | [] => false)
def chkO (G : Gd) (L : Site) : Oe → Option Expr → Bool
  | .none, o => (match o with
    | none => true
    | some _ => false)
  | .some i, o => (match o with
    | some e => chkE G L i e
    | none => false)
def chkC (G : Gd) (L : Site) : Oe → List Expr → Bool
  | .none, ifs => (match ifs with
    | [] => true
    | _ => false)
  | .some ci, ifs => (match ifs with
    | [f] => chkE G L ci f
    | _ => false)
def chkL (G : Gd) (L : Site) : Rf.L → Expr → Bool
  | .disp es, e => (match e with
    | .List xs _ => chkEs G L es xs
    | _ => false)
  | .comp own t it c i, e => (match e with
    | .ListComp elt [⟨tg, iter, ifs, k⟩] scope _ => decide (k = 0) && noSetE iter && blkB L.N L.sc scope own && (t.names.all own.contains) && chkIt G L it tg iter && chkTg G (L.blk scope) t tg && chkC G (L.blk scope) c ifs && chkE G (L.blk scope) i elt
    | _ => false)
  | .cat a b, e => (match e with
    | .BinOp x o y _ => decide (o = .Add) && chkE G L a x && chkE G L b y
    | _ => false)
  | .rep a b, e => (match e with
    | .BinOp x o y _ => decide (o = .Mult) && chkE G L a x && chkE G L b y
    | _ => false)
  | .listOf a, e => (match e with
    | .Call (.Name x _) [y] [] _ => decide (x = ("list" : Str)) && bltB G L.sc "list" && chkE G L a y
    | _ => false)
  | .sorted a, e => (match e with
    | .Call (.Name x _) [y] [] _ => decide (x = ("sorted" : Str)) && bltB G L.sc "sorted" && chkE G L a y
    | _ => false)
  | .sortedSet a, e => (match e with
    | .Call (.Name x _) [.Call (.Name y _) [z] [] _] [] _ => decide (x = ("sorted" : Str)) && decide (y = ("set" : Str)) && bltB G L.sc "sorted" && bltB G L.sc "set" && chkE G L a z
    | _ => false)
  | .rng _, _ => false
def chkIt (G : Gd) (L : Site) : Rf.It → Expr → Expr → Bool
  | .seq a, _, e => chkE G L a e
  | .enum a, tg, e => (match tg, e with
    | .Tuple _ _ _, .Call (.Name x _) [y] [] _ => decide (x = ("enumerate" : Str)) && bltB G L.sc "enumerate" && chkE G L a y
    | _, _ => false)
  | .rng1 a, _, e => (match e with
    | .Call (.Name x _) [y] [] _ => decide (x = ("range" : Str)) && bltB G L.sc "range" && chkE G L a y
    | _ => false)
  | .rng2 a b, _, e => (match e with
    | .Call (.Name x _) [y, z] [] _ => decide (x = ("range" : Str)) && bltB G L.sc "range" && chkE G L a y && chkE G L b z
    | _ => false)
def chkTg (G : Gd) (L : Site) : Tg → Expr → Bool
  | .name i, e => (match e with
    | .Name x _ => decide (L.N[i]? = some x) && stB L x
    | _ => false)
  | .tup ts, e => (match e with
    | .Tuple es _ _ => chkTgs G L ts es
    | _ => false)
  | .sub o i, e => (match e with
    | .Subscript x y _ => noSlice y && chkE G L o x && chkE G L i y
    | _ => false)
def chkTgs (G : Gd) (L : Site) : Tgs → List Expr → Bool
  | .nil, es => (match es with
    | [] => true
    | _ => false)
  | .cons t ts, es => (match es with
    | e :: es => chkTg G L t e && chkTgs G L ts es
    | [] => false)
end
/-- such a context -/
structure Good (G : Gd) (L : Site) (X : Cx) (T : List (Addr × Str)) (W : Str → Hp → Prop) (C : Calls) (R : Nat) : Prop where
  N : X.N = L.N
  nd : L.N.Nodup
  sc : X.env.scope = L.sc
  fn : X.fn = L.fn
  calm : X.calm = true
  un : X.A.units + 65 < cLine
  free : ∀ x ∈ G.free, X.mg x = none
  gints : ∀ p ∈ G.gints, ∃ t, X.mg p.1 = some (.int p.2 t)
  tups : ∀ p ∈ G.tups, ∃ g, X.mg p.1 = some (.ref g) ∧ ∀ H, SqT X.K H g (p.2.map V.str)
  fns : ∀ (i : Nat) (a : Str × Option Str) (n : Nat), G.fns[i]? = some (some (a, n)) → FnK X T C R i a n
  fng : ∀ (i : Nat) (x : Str) (n : Nat), G.fns[i]? = some (some ((x, none), n)) → FnG X x
  cls : ∀ c ∈ G.classes, Cls X.K (He.ga X.K c) ∧ Mk X.K (He.ga X.K c) (He.fAd X.K (c, some ("__init__" : Str))) ∧ X.mg c = some (.ref (He.ga X.K c))
  own : ∀ c ∈ G.classes, OwnC X.K (He.ga X.K c)
  flds : ∀ p ∈ G.flds, NoAttr X.K (He.ga X.K p.1) p.2
  mths : ∀ (i : Nat) (c m : Str) (n : Nat), G.fns[i]? = some (some ((c, some m), n)) → Meth X.K (He.ga X.K c) m (He.fAd X.K (c, some m))
  room : Room (R + 1) X.A
  lam : L.lam = true → LamK X T ∧ ToldF X.prog X.w X.K X.mg X.base ∧ Room (R + 3) X.A ∧ 1 ≤ R
  pass : Passes (L2N.CX X.prog X.w) X (EofW X.K W)
section
variable {G : Gd} {L : Site} {X : Cx} {T : List (Addr × Str)} {W : Str → Hp → Prop} {C : Calls} {R : Nat}
theorem Good.gl (g : Good G L X T W C R) {x : Str} (h : glB L.sc x = true) : Gl X x := by
  show X.env.scope.names.lookup x = some .globalImplicit
  rw [g.sc]
  exact of_decide_eq_true h
theorem Good.blt (g : Good G L X T W C R) {x : Str} (h : bltB G L.sc x = true) : Gl X x ∧ X.mg x = none := by
  obtain ⟨h1, h2⟩ := bnd h
  exact ⟨g.gl h1, g.free x (List.contains_iff_mem.mp h2)⟩
theorem Good.vis (g : Good G L X T W C R) {x : Str} (h : visB L.sc x = true) : Vis X.env.scope x := by
  rw [g.sc]
  unfold visB at h
  unfold Vis
  split at h
  · rename_i e; exact .inl e
  · rename_i e; exact .inr (.inl e)
  · rename_i e; exact .inr (.inr e)
  · cases h
theorem Good.loc (g : Good G L X T W C R) {x : Str} (h : stB L x = true) : L2.Loc X.env.scope x ∧ (X.fn x = true ∨ X.env.scope.names.lookup x = some .local) := by
  rw [g.sc, g.fn]
  obtain ⟨h, h2⟩ := bnd h
  refine ⟨?_, ?_⟩
  · unfold locB at h
    unfold L2.Loc
    split at h
    · rename_i e; exact .inl e
    · rename_i e; exact .inr e
    · cases h
  · rcases Bool.or_eq_true_iff.mp h2 with h2 | h2
    · exact .inl h2
    · exact .inr (of_decide_eq_true h2)
theorem plain_ok {x : Str} (h : plainB x = true) : (x == ("__debug__" : Str)) = false ∧ (x == ("__classdict__" : Str)) = false := by
  obtain ⟨h1, h2⟩ := bnd h
  exact ⟨by simpa using h1, by simpa using h2⟩
theorem Good.names (g : Good G L X T W C R) {i : Nat} {x : Str} (h : L.N[i]? = some x) : X.N[i]? = some x := by rw [g.N]; exact h
theorem Good.nodup (g : Good G L X T W C R) : X.N.Nodup := by rw [g.N]; exact g.nd
/-- a comprehension's block -/
theorem Good.blk (g : Good G L X T W C R) (scope : Scope) (s : Shared) (H : Hp) (B : Addr) (cl : List (Str × Addr)) (fp : List Addr) : Good G (L.blk scope) (X.blk s H scope (compEnvC scope cl B X.env) fp) T noW C R where
  N := g.N
  nd := g.nd
  sc := by
    show relabel scope X.env = relS scope L.sc
    rw [← g.sc]
    rfl
  fn := rfl
  calm := g.calm
  un := g.un
  free := g.free
  gints := g.gints
  tups := g.tups
  fns := fun i a n h => ⟨(g.fns i a n h).ok⟩
  fng := fun i x n h => ⟨(g.fng i x n h).mg, (g.fng i x n h).kp⟩
  cls := g.cls
  own := g.own
  flds := g.flds
  mths := g.mths
  room := g.room
  lam := fun h => by cases h
  pass := fun pins σ H s e s' I c => by
    obtain ⟨_, _, _, _, _, _, _, _, _, _, _, _, _, c, _, h⟩ := c
    exact h
/-- a lambda's body -/
theorem Good.lamX (g : Good G L X T W C R) (scope : Scope) (A : Around) (outer : List Env) (s : Shared) (H : Hp) (E : XK) (f c' : Addr) (hr : Room (R + 1) (A.deeper (LamX.lamEnv X scope s.heap.objs.size f c'))) :
    Good G (L.lamS scope) (Rf.lamX X A outer s H E scope f c') T (WofE X.K E) C R where
  N := g.N
  nd := g.nd
  sc := rfl
  fn := rfl
  calm := rfl
  un := by
    have := hr.un
    show (A.deeper _).units + 65 < cLine
    omega
  free := g.free
  gints := g.gints
  tups := g.tups
  fns := fun i a n h => ⟨(g.fns i a n h).ok⟩
  fng := fun i x n h => ⟨(g.fng i x n h).mg, (g.fng i x n h).kp⟩
  cls := g.cls
  own := g.own
  flds := g.flds
  mths := g.mths
  room := hr
  lam := fun h => by cases h
  pass := by
    have tk0 : L2N.Takes (Rf.lamX X A outer s H E scope f c') (fun cls d _ H => E cls d H) := L2N.takes_of rfl rfl rfl rfl
    exact L2N.passes_call (tk0.imp fun c d σ H (h : EofW X.K (WofE X.K E) c d H) => EofW_of h) fun _ _ _ _ h => h
theorem Good.blkOk (g : Good G L X T W C R) {scope : Scope} {own : List Nat} (h : blkB L.N L.sc scope own = true) : BlkOk X.N X.env.scope scope (ownOf L.N own) ∧ (ownOf L.N own).map (·.2) = own := by
  have em : (ownOf L.N own).map (·.2) = own := by
    unfold ownOf
    rw [List.map_map]
    exact List.map_id' own
  refine ⟨?_, em⟩
  rw [g.N, g.sc]
  obtain ⟨h, h5⟩ := bnd h
  obtain ⟨h, h4⟩ := bnd h
  obtain ⟨h, h3⟩ := bnd h
  obtain ⟨h1, h2⟩ := bnd h
  refine ⟨of_decide_eq_true h1, fun y hy => of_decide_eq_true (List.all_eq_true.mp h2 y hy), fun p hp => ?_, fun y hy e => ?_, fun y hy e => ?_⟩
  · unfold ownOf at hp
    obtain ⟨i, hi, rfl⟩ := List.mem_map.mp hp
    have := List.all_eq_true.mp h3 i hi
    obtain ⟨v, hv⟩ := Option.isSome_iff_exists.mp this
    show L.N[i]? = some ((L.N[i]?).getD Str.empty)
    rw [hv]
    rfl
  · have := List.all_eq_true.mp h4 y hy
    rw [if_pos e] at this
    rcases Bool.or_eq_true_iff.mp this with z | z
    · exact .inl (of_decide_eq_true z)
    · exact .inr (of_decide_eq_true z)
  · have := List.all_eq_true.mp h5 y hy
    rw [if_pos e] at this
    rcases Bool.or_eq_true_iff.mp this with z | z
    · exact .inl (List.contains_iff_mem.mp z)
    · refine .inr fun hm => ?_
      rw [List.contains_iff_mem.mpr hm] at z
      cases z
theorem folded_of {iter : Expr} (h : noSetE iter = true) (env : Env) : ∀ x, foldedSetIterable iter env x = pure x := by
  intro x
  cases iter <;> first | rfl | exact absurd h (by simp [noSetE])
end
end Rf

/-! Rf: what the checker accepts does what the evaluator says: expressions. -/
namespace Rf
open PySem PySem.Spec PyProof.Rows L2
section
variable {G : Gd} {T : List (Addr × Str)} {C : Calls} {F R : Nat}
mutual
theorem okE : ∀ (i : Rf.E) (e : Expr) (L : Site) (X : Cx) (W : Str → Hp → Prop), Good G L X T W C R → chkE G L i e = true → SE X T W C F e i
  | .k c, e, L, X, W, g, h => by
    simp only [chkE] at h
    split at h
    · cases of_decide_eq_true h; exact s_k_int
    · cases of_decide_eq_true h; exact s_k_bl
    · exact s_k_non
    · cases of_decide_eq_true h; exact s_k_str
    · cases h
  | .v i, e, L, X, W, g, h => by
    simp only [chkE] at h
    split at h
    · obtain ⟨h, h3⟩ := bnd h
      obtain ⟨h1, h2⟩ := bnd h
      exact s_v (g.names (of_decide_eq_true h1)) (g.vis h2) (plain_ok h3).1 (plain_ok h3).2
    · cases h
  | .gi x n, e, L, X, W, g, h => by
    simp only [chkE] at h
    split at h
    · obtain ⟨h, h4⟩ := bnd h
      obtain ⟨h, h3⟩ := bnd h
      obtain ⟨h1, h2⟩ := bnd h
      cases of_decide_eq_true h1
      obtain ⟨p, hp, hq⟩ := List.any_eq_true.mp h4
      obtain ⟨q1, q2⟩ := bnd hq
      obtain ⟨t, ht⟩ := g.gints p hp
      rw [of_decide_eq_true q1, of_decide_eq_true q2] at ht
      exact s_gi (g.gl h2) ht (plain_ok h3).1
    · cases h
  | .gt x n, e, L, X, W, g, h => by
    simp only [chkE] at h
    split at h
    · obtain ⟨h, h4⟩ := bnd h
      obtain ⟨h, h3⟩ := bnd h
      obtain ⟨h1, h2⟩ := bnd h
      cases of_decide_eq_true h1
      obtain ⟨p, hp, hq⟩ := List.any_eq_true.mp h4
      obtain ⟨q1, q2⟩ := bnd hq
      obtain ⟨t, ht, hs⟩ := g.tups p hp
      rw [of_decide_eq_true q1] at ht
      rw [of_decide_eq_true q2] at hs
      exact s_gt (g.gl h2) ht hs (plain_ok h3).1
    · cases h
  | .tup es, e, L, X, W, g, h => by
    simp only [chkE] at h
    split at h
    · obtain ⟨h1, h2⟩ := bnd h
      have q := okEs es _ L X W g h1
      exact s_tup q.pa (Nat.le_of_ble_eq_true h2) q.len
    · cases h
  | .ofL l, e, L, X, W, g, h => (okL l e L X W g (by simpa only [chkE] using h)).ofL
  | .alloc l, e, L, X, W, g, h => (okL l e L X W g (by simpa only [chkE] using h)).alloc
  | .bin op a b, e, L, X, W, g, h => by
    simp only [chkE] at h
    split at h
    · obtain ⟨h, h3⟩ := bnd h
      obtain ⟨h1, h2⟩ := bnd h
      cases of_decide_eq_true h1
      exact s_bin op (okE a _ L X W g h2) (okE b _ L X W g h3)
    · cases h
  | .neg a, e, L, X, W, g, h => by
    simp only [chkE] at h
    split at h
    · exact s_neg (okE a _ L X W g h)
    · cases h
  | .not a, e, L, X, W, g, h => by
    simp only [chkE] at h
    split at h
    · exact s_not (okE a _ L X W g h)
    · cases h
  | .cmp op a b, e, L, X, W, g, h => by
    simp only [chkE] at h
    split at h
    · obtain ⟨h, h4⟩ := bnd h
      obtain ⟨h, h3⟩ := bnd h
      obtain ⟨h1, h2⟩ := bnd h
      cases of_decide_eq_true h1
      exact s_cmp g.un op (okE a _ L X W g h3) (okE b _ L X W g h4) (by simpa using h2)
    · cases h
  | .chain o1 o2 a b c, e, L, X, W, g, h => by
    simp only [chkE] at h
    split at h
    · obtain ⟨h, h6⟩ := bnd h
      obtain ⟨h, h5⟩ := bnd h
      obtain ⟨h, h4⟩ := bnd h
      obtain ⟨h, h3⟩ := bnd h
      obtain ⟨h1, h2⟩ := bnd h
      cases of_decide_eq_true h1
      cases of_decide_eq_true h2
      exact s_chain g.un o1 o2 (okE a _ L X W g h4) (okE b _ L X W g h5) (okE c _ L X W g h6) (by simpa using h3)
    · cases h
  | .isN a, e, L, X, W, g, h => by
    simp only [chkE] at h
    split at h
    · exact s_isN (okE a _ L X W g h)
    · cases h
  | .notN a, e, L, X, W, g, h => by
    simp only [chkE] at h
    split at h
    · exact s_notN (okE a _ L X W g h)
    · cases h
  | .bop conj es, e, L, X, W, g, h => by
    simp only [chkE] at h
    split at h
    · obtain ⟨h, h3⟩ := bnd h
      obtain ⟨h1, h2⟩ := bnd h
      cases of_decide_eq_true h1
      exact s_bop conj (okEs es _ L X W g h3) (by intro e; subst e; cases h2)
    · cases h
  | .ife c a b, e, L, X, W, g, h => by
    simp only [chkE] at h
    split at h
    · obtain ⟨h, h3⟩ := bnd h
      obtain ⟨h1, h2⟩ := bnd h
      exact s_ife (okE c _ L X W g h1) (okE a _ L X W g h2) (okE b _ L X W g h3)
    · cases h
  | .ix a b, e, L, X, W, g, h => by
    simp only [chkE] at h
    split at h
    · obtain ⟨h, h3⟩ := bnd h
      obtain ⟨h1, h2⟩ := bnd h
      exact s_ix (okE a _ L X W g h2) (okE b _ L X W g h3) h1
    · cases h
  | .sl a lo hi, e, L, X, W, g, h => by
    simp only [chkE] at h
    split at h
    · obtain ⟨h, h3⟩ := bnd h
      obtain ⟨h1, h2⟩ := bnd h
      exact s_sl (okE a _ L X W g h1) (okO lo _ L X W g h2) (okO hi _ L X W g h3)
    · cases h
  | .rev a, e, L, X, W, g, h => by
    simp only [chkE] at h
    split at h
    · obtain ⟨h1, h2⟩ := bnd h
      cases of_decide_eq_true h1
      exact s_rev (okE a _ L X W g h2)
    · cases h
  | .blt f es, e, L, X, W, g, h => by
    simp only [chkE] at h
    split at h
    · obtain ⟨h, h3⟩ := bnd h
      obtain ⟨h1, h2⟩ := bnd h
      cases of_decide_eq_true h1
      exact s_blt g.calm f (okEs es _ L X W g h3) (g.blt h2).1 (g.blt h2).2
    · cases h
  | .isi a t, e, L, X, W, g, h => by
    simp only [chkE] at h
    split at h
    · obtain ⟨h, h4⟩ := bnd h
      obtain ⟨h, h3⟩ := bnd h
      obtain ⟨h1, h2⟩ := bnd h
      cases of_decide_eq_true h1
      split at h3
      · rename_i n hn
        obtain ⟨h5, h6⟩ := bnd h3
        cases of_decide_eq_true h5
        exact s_isi hn (okE a _ L X W g h4) (g.blt h2).1 (g.blt h2).2 (g.blt h6).1 (g.blt h6).2
      · cases h3
    · cases h
  | .idx a b, e, L, X, W, g, h => by
    simp only [chkE] at h
    split at h
    · obtain ⟨h, h5⟩ := bnd h
      obtain ⟨h, h4⟩ := bnd h
      obtain ⟨h, h3⟩ := bnd h
      obtain ⟨h1, h2⟩ := bnd h
      cases of_decide_eq_true h1
      exact s_idx g.un (okE a _ L X W g h4) (okE b _ L X W g h5) h2 h3
    · cases h
  | .call f es, e, L, X, W, g, h => by
    simp only [chkE] at h
    split at h
    · obtain ⟨h, h4⟩ := bnd h
      obtain ⟨h, h3⟩ := bnd h
      obtain ⟨h1, h2⟩ := bnd h
      exact s_call (g.fns f _ _ (of_decide_eq_true h1)) (g.room.mono (Nat.le_succ R)) (g.fng f _ _ (of_decide_eq_true h1)) g.pass (g.gl h2) (plain_ok h3).1 (okEs es _ L X W g h4) rfl
    · cases h
  | .make c f es, e, L, X, W, g, h => by
    simp only [chkE] at h
    split at h
    · obtain ⟨h, h7⟩ := bnd h
      obtain ⟨h, h6⟩ := bnd h
      obtain ⟨h, h5⟩ := bnd h
      obtain ⟨h, h4⟩ := bnd h
      obtain ⟨h, h3⟩ := bnd h
      obtain ⟨h1, h2⟩ := bnd h
      cases of_decide_eq_true h1
      obtain ⟨q1, q2, q3⟩ := g.cls _ (List.contains_iff_mem.mp h3)
      exact s_make q2 q3 (g.fns f _ _ (of_decide_eq_true h2)) g.room g.pass (g.gl h4) (plain_ok h5).1 (okEs es _ L X W g h7) rfl (by intro z; subst z; cases h6)
    · cases h
  | .meth c m f o es, e, L, X, W, g, h => by
    simp only [chkE] at h
    split at h
    · obtain ⟨h, h8⟩ := bnd h
      obtain ⟨h, h7⟩ := bnd h
      obtain ⟨h, h6⟩ := bnd h
      obtain ⟨h, h5⟩ := bnd h
      obtain ⟨h, h4⟩ := bnd h
      obtain ⟨h, h3⟩ := bnd h
      obtain ⟨h1, h2⟩ := bnd h
      cases of_decide_eq_true h1
      obtain ⟨q1, q2, q3⟩ := g.cls _ (List.contains_iff_mem.mp h3)
      exact s_meth (okE o _ L X W g h7) q1 (g.mths f _ _ _ (of_decide_eq_true h2)) (g.fns f _ _ (of_decide_eq_true h2)) (g.room.mono (Nat.le_succ R)) g.pass (okEs es _ L X W g h8) rfl h4 h5 (Nat.le_of_ble_eq_true h6)
    · cases h
  | .fld c o f, e, L, X, W, g, h => by
    simp only [chkE] at h
    split at h
    · obtain ⟨h, h5⟩ := bnd h
      obtain ⟨h, h4⟩ := bnd h
      obtain ⟨h, h3⟩ := bnd h
      obtain ⟨h1, h2⟩ := bnd h
      cases of_decide_eq_true h1
      obtain ⟨q1, q2, q3⟩ := g.cls _ (List.contains_iff_mem.mp h2)
      exact s_fld (okE o _ L X W g h5) q1 (g.flds (c, f) (List.contains_iff_mem.mp h3)) h4
    · cases h
  | .told i, e, L, X, W, g, h => by
    simp only [chkE] at h
    split at h
    · obtain ⟨h, h6⟩ := bnd h
      obtain ⟨h, h5⟩ := bnd h
      obtain ⟨h, h4⟩ := bnd h
      obtain ⟨h, h3⟩ := bnd h
      obtain ⟨h1, h2⟩ := bnd h
      cases of_decide_eq_true h1
      obtain ⟨q1, q2, q3, q4⟩ := g.lam h2
      exact s_told (k := R + 1) q2 q1 (g.gl h3) q3 (by omega) (by rw [g.sc]; exact LamX.lamS_by h4) h5 fun A outer s H E f c' hr => okE i _ _ _ _ (g.lamX _ A outer s H E f c' hr) h6
    · cases h
  | .gd _ _ _, e, L, X, W, g, h => by simp only [chkE] at h; cases h
  | .rngT _, e, L, X, W, g, h => by simp only [chkE] at h; cases h
  | .lenO c f o, e, L, X, W, g, h => by
    simp only [chkE] at h
    split at h
    · obtain ⟨h, h4⟩ := bnd h
      obtain ⟨h, h3⟩ := bnd h
      obtain ⟨h1, h2⟩ := bnd h
      cases of_decide_eq_true h1
      exact s_lenO (okE o _ L X W g h4) (g.mths f _ _ _ (of_decide_eq_true h3)) (g.fns f _ _ (of_decide_eq_true h3)) g.room g.pass (g.blt h2).1 (g.blt h2).2
    · cases h
  | .eqO c f a b, e, L, X, W, g, h => by
    simp only [chkE] at h
    split at h
    · obtain ⟨h, h6⟩ := bnd h
      obtain ⟨h, h5⟩ := bnd h
      obtain ⟨h, h4⟩ := bnd h
      obtain ⟨h, h3⟩ := bnd h
      obtain ⟨h1, h2⟩ := bnd h
      cases of_decide_eq_true h1
      exact s_eqO (okE a _ L X W g h5) (okE b _ L X W g h6) (g.own _ (List.contains_iff_mem.mp h4)) (g.mths f _ _ _ (of_decide_eq_true h3)) (g.fns f _ _ (of_decide_eq_true h3)) (g.room.mono (Nat.le_succ R)) g.pass (by simpa using h2)
    · cases h
  | .isC c a, e, L, X, W, g, h => by
    simp only [chkE] at h
    split at h
    · obtain ⟨h, h7⟩ := bnd h
      obtain ⟨h, h6⟩ := bnd h
      obtain ⟨h, h5⟩ := bnd h
      obtain ⟨h, h4⟩ := bnd h
      obtain ⟨h, h3⟩ := bnd h
      obtain ⟨h1, h2⟩ := bnd h
      cases of_decide_eq_true h1
      cases of_decide_eq_true h3
      obtain ⟨q1, q2, q3⟩ := g.cls _ (List.contains_iff_mem.mp h4)
      exact s_isC (okE a _ L X W g h7) q1 (g.own _ (List.contains_iff_mem.mp h4)) (g.blt h2).1 (g.blt h2).2 (g.gl h5) q3 (plain_ok h6).1
    · cases h
termination_by structural x => x
theorem okEs : ∀ (is : Es) (es : List Expr) (L : Site) (X : Cx) (W : Str → Hp → Prop), Good G L X T W C R → chkEs G L is es = true → SEs X T W C F es is
  | .nil, es, L, X, W, g, h => by
    simp only [chkEs] at h
    split at h
    · exact .nil
    · cases h
  | .cons i is, es, L, X, W, g, h => by
    simp only [chkEs] at h
    split at h
    · obtain ⟨h1, h2⟩ := bnd h
      exact .cons (okE i _ L X W g h1) (okEs is _ L X W g h2)
    · cases h
termination_by structural x => x
theorem okO : ∀ (is : Oe) (es : Option Expr) (L : Site) (X : Cx) (W : Str → Hp → Prop), Good G L X T W C R → chkO G L is es = true → PO X es (tOe X T W C F is)
  | .none, es, L, X, W, g, h => by
    simp only [chkO] at h
    split at h
    · exact s_oNone
    · cases h
  | .some i, es, L, X, W, g, h => by
    simp only [chkO] at h
    split at h
    · exact s_oSome (okE i _ L X W g h)
    · cases h
termination_by structural x => x
theorem okC : ∀ (c : Oe) (ifs : List Expr) (L : Site) (X : Cx), Good G L X T noW C R → chkC G L c ifs = true → PTs X ifs (tC0 X T C F c)
  | .none, ifs, L, X, g, h => by
    simp only [chkC] at h
    split at h
    · exact pts_none
    · cases h
  | .some i, ifs, L, X, g, h => by
    simp only [chkC] at h
    split at h
    · exact pts_some (okE i _ L X noW g h)
    · cases h
termination_by structural x => x
theorem okL : ∀ (l : Rf.L) (e : Expr) (L : Site) (X : Cx) (W : Str → Hp → Prop), Good G L X T W C R → chkL G L l e = true → SL X T W C F e l
  | .disp es, e, L, X, W, g, h => by
    simp only [chkL] at h
    split at h
    · exact s_disp (okEs es _ L X W g h).pa
    · cases h
  | .comp own t it c i, e, L, X, W, g, h => by
    simp only [chkL] at h
    split at h
    · rename_i elt tg iter ifs k scope pos
      obtain ⟨h, h8⟩ := bnd h
      obtain ⟨h, h7⟩ := bnd h
      obtain ⟨h, h6⟩ := bnd h
      obtain ⟨h, h5⟩ := bnd h
      obtain ⟨h, h4⟩ := bnd h
      obtain ⟨h, h3⟩ := bnd h
      obtain ⟨h1, h2⟩ := bnd h
      cases of_decide_eq_true h1
      obtain ⟨b1, b2⟩ := g.blkOk h3
      have ht : ∀ (s : Shared) (H : Hp) (B : Addr) (cl : List (Str × Addr)) (fp : List Addr), PTs (X.blk s H scope (compEnvC scope cl B X.env) fp) ifs (tC0 X T C F c) := fun s H B cl fp => okC c ifs _ _ (g.blk scope s H B cl fp) h7
      have r := s_comp (pos := pos) (i := i) (c := c) (t := t) (it := it) g.calm g.nodup (okIt it _ _ L X W g h5) b1 (fun s H B cl fp => okTg t _ _ _ _ (g.blk scope s H B cl fp) h6) ht (fun s H B cl fp => okE i _ _ _ _ (g.blk scope s H B cl fp) h8) (folded_of h2 X.env)
        (by rw [b2]; exact fun n hn => List.contains_iff_mem.mp (List.all_eq_true.mp h4 n hn))
      rw [b2] at r
      exact r
    · cases h
  | .cat a b, e, L, X, W, g, h => by
    simp only [chkL] at h
    split at h
    · obtain ⟨h, h3⟩ := bnd h
      obtain ⟨h1, h2⟩ := bnd h
      cases of_decide_eq_true h1
      exact s_cat (okE a _ L X W g h2) (okE b _ L X W g h3)
    · cases h
  | .rep a b, e, L, X, W, g, h => by
    simp only [chkL] at h
    split at h
    · obtain ⟨h, h3⟩ := bnd h
      obtain ⟨h1, h2⟩ := bnd h
      cases of_decide_eq_true h1
      exact s_rep (okE a _ L X W g h2) (okE b _ L X W g h3)
    · cases h
  | .listOf a, e, L, X, W, g, h => by
    simp only [chkL] at h
    split at h
    · obtain ⟨h, h3⟩ := bnd h
      obtain ⟨h1, h2⟩ := bnd h
      cases of_decide_eq_true h1
      exact s_listOf (okE a _ L X W g h3) (g.blt h2).1 (g.blt h2).2
    · cases h
  | .sorted a, e, L, X, W, g, h => by
    simp only [chkL] at h
    split at h
    · obtain ⟨h, h3⟩ := bnd h
      obtain ⟨h1, h2⟩ := bnd h
      cases of_decide_eq_true h1
      exact s_sorted g.un (okE a _ L X W g h3) (g.blt h2).1 (g.blt h2).2
    · cases h
  | .sortedSet a, e, L, X, W, g, h => by
    simp only [chkL] at h
    split at h
    · obtain ⟨h, h5⟩ := bnd h
      obtain ⟨h, h4⟩ := bnd h
      obtain ⟨h, h3⟩ := bnd h
      obtain ⟨h1, h2⟩ := bnd h
      cases of_decide_eq_true h1
      cases of_decide_eq_true h2
      exact s_sortedSet g.calm g.un (okE a _ L X W g h5) (g.blt h3).1 (g.blt h3).2 (g.blt h4).1 (g.blt h4).2
    · cases h
  | .rng _, e, L, X, W, g, h => by simp only [chkL] at h; cases h
termination_by structural x => x
theorem okIt : ∀ (it : Rf.It) (tg e : Expr) (L : Site) (X : Cx) (W : Str → Hp → Prop), Good G L X T W C R → chkIt G L it tg e = true → PI X tg e (tI X T W C F it)
  | .seq a, tg, e, L, X, W, g, h => i_seq (okE a e L X W g (by simpa only [chkIt] using h))
  | .enum a, tg, e, L, X, W, g, h => by
    simp only [chkIt] at h
    split at h
    · obtain ⟨h, h3⟩ := bnd h
      obtain ⟨h1, h2⟩ := bnd h
      cases of_decide_eq_true h1
      exact i_enum (okE a _ L X W g h3) (g.blt h2).1 (g.blt h2).2
    · cases h
  | .rng1 a, tg, e, L, X, W, g, h => by
    simp only [chkIt] at h
    split at h
    · obtain ⟨h, h3⟩ := bnd h
      obtain ⟨h1, h2⟩ := bnd h
      cases of_decide_eq_true h1
      exact i_rng1 (okE a _ L X W g h3) (g.blt h2).1 (g.blt h2).2
    · cases h
  | .rng2 a b, tg, e, L, X, W, g, h => by
    simp only [chkIt] at h
    split at h
    · obtain ⟨h, h4⟩ := bnd h
      obtain ⟨h, h3⟩ := bnd h
      obtain ⟨h1, h2⟩ := bnd h
      cases of_decide_eq_true h1
      exact i_rng2 (okE a _ L X W g h3) (okE b _ L X W g h4) (g.blt h2).1 (g.blt h2).2
    · cases h
termination_by structural x => x
theorem okTg : ∀ (t : Tg) (e : Expr) (L : Site) (X : Cx) (W : Str → Hp → Prop), Good G L X T W C R → chkTg G L t e = true → SG X T W C F e t
  | .name i, e, L, X, W, g, h => by
    simp only [chkTg] at h
    split at h
    · obtain ⟨h1, h2⟩ := bnd h
      exact g_name g.nodup (g.names (of_decide_eq_true h1)) (g.loc h2).1 (g.loc h2).2
    · cases h
  | .tup ts, e, L, X, W, g, h => by
    simp only [chkTg] at h
    split at h
    · exact g_tup g.calm (okTgs ts _ L X W g h)
    · cases h
  | .sub o i, e, L, X, W, g, h => by
    simp only [chkTg] at h
    split at h
    · obtain ⟨h, h3⟩ := bnd h
      obtain ⟨h1, h2⟩ := bnd h
      exact g_sub (okE o _ L X W g h2) (okE i _ L X W g h3) h1
    · cases h
termination_by structural x => x
theorem okTgs : ∀ (ts : Tgs) (es : List Expr) (L : Site) (X : Cx) (W : Str → Hp → Prop), Good G L X T W C R → chkTgs G L ts es = true → SGs X T W C F es ts
  | .nil, es, L, X, W, g, h => by
    simp only [chkTgs] at h
    split at h
    · exact .nil
    · cases h
  | .cons t ts, es, L, X, W, g, h => by
    simp only [chkTgs] at h
    split at h
    · obtain ⟨h1, h2⟩ := bnd h
      exact .cons (okTg t _ L X W g h1) (okTgs ts _ L X W g h2)
    · cases h
termination_by structural x => x
end
end
end Rf

/-! Rf: the checker for statements, and its soundness. -/
namespace Rf
open PySem PySem.Spec PyProof.Rows L2
def isStar : Expr → Bool
  | .Starred _ _ => true
  | _ => false
def nameP (sc : Scope) (line : Nat) : Expr → Option Str
  | .Name id pos => if sc.names.lookup id == some .local && pos.line == line then some id else none
  | _ => none
def namesT (sc : Scope) (ts : List Expr) : List Str := ts.filterMap (nameP sc ((ts.head?.map (·.pos.line)).getD 0))
def swapsT (sc : Scope) (ts vs : List Expr) : Option (Option (List Str)) :=
  if (!(ts.length == 2 || ts.length == 3) || vs.length != ts.length || false) = true then some none
  else if vs.any isStar = true then some none
  else if ((namesT sc ts).length != ts.length || (namesT sc ts).eraseDups.length != (namesT sc ts).length) = true then some none
  else if vs.all (foldedForSure 8) = true then some none
  else if vs.all (constantsAlone 8) = true then none
  else some (some (namesT sc ts))
theorem block_fn {env : Env} (h : env.scope.kind = .function) : (env.blockKind != .function) = false := by
  unfold Env.blockKind
  rw [h]
  rfl
theorem swapsT_ok {sc : Scope} {ts vs : List Expr} {r : Option (List Str)} {env : Env} {k1 k2 : Nat} {p1 p2 : Pos} (hs : env.scope = sc) (hk : sc.kind = .function) (h : swapsT sc ts vs = some r) : swappedStores [.Tuple ts k1 p1] (.Tuple vs k2 p2) env = pure r := by
  subst hs
  have e : swappedStores [.Tuple ts k1 p1] (.Tuple vs k2 p2) env = (if (!(ts.length == 2 || ts.length == 3) || vs.length != ts.length || env.blockKind != .function) = true then pure none
    else if vs.any isStar = true then pure none
    else if ((namesT env.scope ts).length != ts.length || (namesT env.scope ts).eraseDups.length != (namesT env.scope ts).length) = true then pure none
    else if vs.all (foldedForSure 8) = true then pure none
    else if vs.all (constantsAlone 8) = true then (do unsupported "assign.tuple-of-constant-expressions:order-of-the-stores"; pure (some (namesT env.scope ts)))
    else pure (some (namesT env.scope ts))) := by
    unfold swappedStores
    simp only [pure_bind]
    rfl
  rw [e, block_fn hk]
  unfold swapsT at h
  split at h
  · rename_i h1
    cases h
    rw [if_pos h1]
  · rename_i h1
    rw [if_neg h1]
    split at h
    · rename_i h2
      cases h
      rw [if_pos h2]
    · rename_i h2
      rw [if_neg h2]
      split at h
      · rename_i h3
        cases h
        rw [if_pos h3]
      · rename_i h3
        rw [if_neg h3]
        split at h
        · rename_i h4
          cases h
          rw [if_pos h4]
        · rename_i h4
          rw [if_neg h4]
          split at h
          · cases h
          · rename_i h5
            cases h
            rw [if_neg h5]
def noSwapB (sc : Scope) (tg e : Expr) : Bool := match tg with
  | .Tuple ts _ _ => (match e with
    | .Tuple vs _ _ => decide (swapsT sc ts vs = some none)
    | _ => true)
  | .List _ _ => false
  | _ => true
theorem noSwap_ok {sc : Scope} {tg e : Expr} {env : Env} (hs : env.scope = sc) (hk : sc.kind = .function) (h : noSwapB sc tg e = true) : swappedStores [tg] e env = pure none := by
  unfold noSwapB at h
  split at h
  · split at h
    · exact swapsT_ok hs hk (of_decide_eq_true h)
    · rename_i hn
      cases e <;> first | rfl | exact absurd rfl (hn _ _ _)
  · cases h
  · rename_i h1 h2
    cases tg <;> first | rfl | exact absurd rfl (h1 _ _ _) | exact absurd rfl (h2 _ _)
/-- does the comprehension's value go to the name within it? -/
def lcSwapB (sc : Scope) (y : Str) (py pos : Pos) (scope : Scope) : Bool := decide (sc.names.lookup y = some .local) && (py.line == pos.line) && !(scope.names.any fun (n, k) => n == y && (k == .local || k == .cell))
theorem lcSwap_false {elt : Expr} {gs : List Comprehension} {scope : Scope} {pos py : Pos} {y : Str} {l : Nat} {env : Env} (hk : env.scope.kind = .function) (h : lcSwapB env.scope y py pos scope = false) : swapsWith (.ListComp elt gs scope pos) (some (.Name y py)) l env = pure false := by
  have hb : env.blockKind = .function := by unfold Env.blockKind; rw [hk]; rfl
  unfold swapsWith
  simp only [hb, Expr.pos]
  show (pure (true && (env.kindOf y == some .local) && (py.line == pos.line) && !(scope.names.any fun (n, k) => n == y && (k == .local || k == .cell))) : Sem Bool) = pure false
  unfold lcSwapB at h
  have e : (env.kindOf y == some .local) = decide (env.scope.names.lookup y = some .local) := by
    show (env.scope.names.lookup y == some .local) = _
    rw [Bool.eq_iff_iff, beq_iff_eq, decide_eq_true_iff]
  rw [Bool.true_and, e, h]
theorem lcSwap_true {elt : Expr} {gs : List Comprehension} {scope : Scope} {pos py : Pos} {y : Str} {l : Nat} {env : Env} (hk : env.scope.kind = .function) (h : lcSwapB env.scope y py pos scope = true) : env.scope.names.lookup y = some .local ∧ swapsWith (.ListComp elt gs scope pos) (some (.Name y py)) l env = pure true := by
  unfold lcSwapB at h
  obtain ⟨h, h3⟩ := bnd h
  obtain ⟨h1, h2⟩ := bnd h
  have h1 := of_decide_eq_true h1
  exact ⟨h1, sw_true hk h1 h2 (by simpa using h3)⟩
def parB (G : Gd) (L : Site) (t : Tg) (i : Rf.E) (tg e : Expr) : Bool := match i with
  | .tup is => (match tg, e with
    | .Tuple [.Name x p1, .Name y p2] _ _, .Tuple [a, b] _ _ => (match t with
      | .tup (.cons (.name n) (.cons (.name m) .nil)) => decide (swapsT L.sc [.Name x p1, .Name y p2] [a, b] = some (some [x, y])) && decide (L.N[n]? = some x) && decide (L.N[m]? = some y) && decide (n ≠ m) && decide (L.sc.names.lookup x = some .local) && decide (L.sc.names.lookup y = some .local) && chkEs G L is [a, b]
      | _ => false)
    | .Tuple [.Name x p1, .Name y p2, .Name z p3] _ _, .Tuple [a, b, c] _ _ => (match t with
      | .tup (.cons (.name n) (.cons (.name m) (.cons (.name l) .nil))) => decide (swapsT L.sc [.Name x p1, .Name y p2, .Name z p3] [a, b, c] = some (some [x, y, z])) && decide (L.N[n]? = some x) && decide (L.N[m]? = some y) && decide (L.N[l]? = some z) && decide (n ≠ m) && decide (n ≠ l) && decide (m ≠ l) && decide (L.sc.names.lookup x = some .local) && decide (L.sc.names.lookup y = some .local) && decide (L.sc.names.lookup z = some .local) && chkEs G L is [a, b, c]
      | _ => false)
    | _, _ => false)
  | _ => false
structure GoodS (G : Gd) (L : Site) (X : Cx) (T : List (Addr × Str)) (W : Str → Hp → Prop) (C : Calls) (R : Nat) : Prop where
  g : Good G L X T W C R
  kind : L.sc.kind = .function
  hp : PassesOwn (model X.prog X.w) X.A X.env X.xe
  tk : L2N.Takes X (fun cls d _ H => EofW X.K W cls d H)
  excs : ∀ x ∈ G.excs, (He.Fa.exc x).ok X.K = true ∧ X.mg x = some (.ref (He.ga X.K x))
section
variable {G : Gd} {T : List (Addr × Str)} {C : Calls} {F R : Nat} {L : Site} {X : Cx} {W : Str → Hp → Prop}
theorem parB_ok {t : Tg} {i : Rf.E} {tg e : Expr} {pos : Pos} (g : GoodS G L X T W C R) (h : parB G L t i tg e = true) : PS X (.Assign [tg] e pos) (tS X T W C F (.asg t i)) := by
  unfold parB at h
  split at h
  · split at h
    · split at h
      · obtain ⟨h, h7⟩ := bnd h
        obtain ⟨h, h6⟩ := bnd h
        obtain ⟨h, h5⟩ := bnd h
        obtain ⟨h, h4⟩ := bnd h
        obtain ⟨h, h3⟩ := bnd h
        obtain ⟨h1, h2⟩ := bnd h
        have sc := g.g.sc
        exact ss_par g.g.calm g.g.nodup (g.g.names (of_decide_eq_true h2)) (g.g.names (of_decide_eq_true h3)) (of_decide_eq_true h4) (by rw [sc]; exact of_decide_eq_true h5) (by rw [sc]; exact of_decide_eq_true h6) (okEs _ _ L X W g.g h7) (swapsT_ok sc g.kind (of_decide_eq_true h1))
      · cases h
    · split at h
      · obtain ⟨h, h11⟩ := bnd h
        obtain ⟨h, h10⟩ := bnd h
        obtain ⟨h, h9⟩ := bnd h
        obtain ⟨h, h8⟩ := bnd h
        obtain ⟨h, h7⟩ := bnd h
        obtain ⟨h, h6⟩ := bnd h
        obtain ⟨h, h5⟩ := bnd h
        obtain ⟨h, h4⟩ := bnd h
        obtain ⟨h, h3⟩ := bnd h
        obtain ⟨h1, h2⟩ := bnd h
        have sc := g.g.sc
        exact ss_par3 g.g.calm g.g.nodup (g.g.names (of_decide_eq_true h2)) (g.g.names (of_decide_eq_true h3)) (g.g.names (of_decide_eq_true h4)) (of_decide_eq_true h5) (of_decide_eq_true h6) (of_decide_eq_true h7) (by rw [sc]; exact of_decide_eq_true h8) (by rw [sc]; exact of_decide_eq_true h9) (by rw [sc]; exact of_decide_eq_true h10) (okEs _ _ L X W g.g h11) (swapsT_ok sc g.kind (of_decide_eq_true h1))
      · cases h
    · cases h
  · cases h
end
def isLc : Expr → Option (Pos × Scope)
  | .ListComp _ _ s p => some (p, s)
  | _ => none
mutual
def chkS (G : Gd) (L : Site) : S → Stmt → Bool
  | .expr i, s => (match s with
    | .Expr e _ => nComp e && chkE G L i e
    | _ => false)
  | .ret i, s => (match s with
    | .Return (some e) _ => chkE G L i e
    | _ => false)
  | .asg t i, s => (match s with
    | .Assign [tg] e _ => (nComp e && noSwapB L.sc tg e && chkTg G L t tg && chkE G L i e) || parB G L t i tg e
    | _ => false)
  | .asgL n _ l, s => (match s with
    | .Assign [.Name x px] e _ => decide (L.N[n]? = some x) && stB L x && chkL G L l e && (match e with
      | .ListComp _ _ scope p => true
      | e => nComp e)
    | _ => false)
  | .fld c o f i, s => (match s with
    | .Assign [.Attribute x f' _] e _ => decide (f' = f) && G.classes.contains c && G.flds.contains (c, f) && nComp e && chkE G L o x && chkE G L i e
    | _ => false)
  | .ife c a b, s => (match s with
    | .If e xs ys _ => chkE G L c e && chkSs G L a xs && chkSs G L b ys
    | _ => false)
  | .for_ t it b, s => (match s with
    | .For tg iter xs [] _ => noSetE iter && chkIt G L it tg iter && chkTg G L t tg && chkSs G L b xs
    | _ => false)
  | .while_ c b, s => (match s with
    | .While e xs [] _ => chkE G L c e && chkSs G L b xs
    | _ => false)
  | .append o i, s => (match s with
    | .Expr (.Call (.Attribute x m ap) [y] [] cp) _ => decide (m = ("append" : Str)) && okBase x && (ap.endLine == cp.line) && chkE G L o x && chkE G L i y
    | _ => false)
  | .raise c, s => (match s with
    | .Raise (some (.Call (.Name x _) [.Constant (.str _) _ _] [] _)) none _ => decide (x = c) && glB L.sc c && plainB c && G.excs.contains c
    | _ => false)
def chkSs (G : Gd) (L : Site) : Ss → List Stmt → Bool
  | .nil, ss => (match ss with
    | [] => true
    | _ => false)
  | .cons i is, ss => (match ss with
    | s :: ss => chkS G L i s && chkSs G L is ss
    | [] => false)
end
section
variable {G : Gd} {T : List (Addr × Str)} {C : Calls} {F R : Nat} {L : Site} {X : Cx} {W : Str → Hp → Prop}
/-- name = [..]: the list is made, then stored, or stored within -/
theorem lc_asg {own : List Nat} {t : Tg} {it : Rf.It} {c : Oe} {i : Rf.E} {n : Nat} {mu : Bool} {x : Str} {px pos p : Pos} {elt : Expr} {gs : List Comprehension} {scope : Scope} (g : GoodS G L X T W C R) (hi : L.N[n]? = some x) (hx : stB L x = true)
    (h : chkL G L (.comp own t it c i) (.ListComp elt gs scope p) = true) : PS X (.Assign [.Name x px] (.ListComp elt gs scope p) pos) (tS X T W C F (.asgL n mu (.comp own t it c i))) := by
  have sl : SL X T W C F (.ListComp elt gs scope p) (.comp own t it c i) := okL _ _ L X W g.g h
  have kf : X.env.scope.kind = .function := by rw [g.g.sc]; exact g.kind
  cases q : lcSwapB X.env.scope x px p scope with
  | false => exact ss_asgL sl g.g.nodup (g.g.names hi) (g.g.loc hx).1 (g.g.loc hx).2 (lcSwap_false kf q)
  | true =>
    obtain ⟨h0, h9⟩ := lcSwap_true (elt := elt) (gs := gs) (l := pos.line) kf q
    simp only [chkL] at h
    split at h
    · rename_i e1
      cases e1
      obtain ⟨h, h8⟩ := bnd h
      obtain ⟨h, h7⟩ := bnd h
      obtain ⟨h, h6⟩ := bnd h
      obtain ⟨h, h5⟩ := bnd h
      obtain ⟨h, h4⟩ := bnd h
      obtain ⟨h, h3⟩ := bnd h
      obtain ⟨h1, h2⟩ := bnd h
      cases of_decide_eq_true h1
      obtain ⟨b1, b2⟩ := g.g.blkOk h3
      have r := ss_comp (F := F) (T := T) (C := C) (W := W) (pos := p) (spos := pos) (i := i) (c := c) (t := t) (it := it) (mu := mu) g.g.calm g.g.nodup (okIt it _ _ L X W g.g h5) b1 (g.g.names hi) h0 h9 (fun s H B cl fp => okTg t _ _ _ _ (g.g.blk scope s H B cl fp) h6) (fun s H B cl fp => okC c _ _ _ (g.g.blk scope s H B cl fp) h7) (fun s H B cl fp => okE i _ _ _ _ (g.g.blk scope s H B cl fp) h8) (folded_of h2 X.env)
        (by rw [b2]; exact fun n hn => List.contains_iff_mem.mp (List.all_eq_true.mp h4 n hn))
      rw [b2] at r
      exact r
    · cases h
mutual
theorem okS : ∀ (s : S) (st : Stmt), GoodS G L X T W C R → chkS G L s st = true → PS X st (tS X T W C F s)
  | .expr i, st, g, h => by
    simp only [chkS] at h
    split at h
    · obtain ⟨h1, h2⟩ := bnd h
      exact ss_expr (okE i _ L X W g.g h2) h1
    · cases h
  | .ret i, st, g, h => by
    simp only [chkS] at h
    split at h
    · exact ss_ret (okE i _ L X W g.g h)
    · cases h
  | .asg t i, st, g, h => by
    simp only [chkS] at h
    split at h
    · rcases Bool.or_eq_true_iff.mp h with h | h
      · obtain ⟨h, h4⟩ := bnd h
        obtain ⟨h, h3⟩ := bnd h
        obtain ⟨h1, h2⟩ := bnd h
        exact ss_asg (okE i _ L X W g.g h4) (okTg t _ L X W g.g h3) h1 (noSwap_ok g.g.sc g.kind h2)
      · exact parB_ok g h
    · cases h
  | .asgL n mu l, st, g, h => by
    simp only [chkS] at h
    split at h
    · obtain ⟨h, h4⟩ := bnd h
      obtain ⟨h, h3⟩ := bnd h
      obtain ⟨h1, h2⟩ := bnd h
      have h1 := of_decide_eq_true h1
      split at h4
      · cases l with
        | comp own t it c i => exact lc_asg g h1 h2 h3
        | disp es => simp only [chkL] at h3; cases h3
        | cat a b => simp only [chkL] at h3; cases h3
        | rep a b => simp only [chkL] at h3; cases h3
        | listOf a => simp only [chkL] at h3; cases h3
        | sorted a => simp only [chkL] at h3; cases h3
        | sortedSet a => simp only [chkL] at h3; cases h3
        | rng a => simp only [chkL] at h3; cases h3
      · exact ss_asgL (okL l _ L X W g.g h3) g.g.nodup (g.g.names h1) (g.g.loc h2).1 (g.g.loc h2).2 (swap_of h4 _ _ _)
    · cases h
  | .fld c o f i, st, g, h => by
    simp only [chkS] at h
    split at h
    · obtain ⟨h, h6⟩ := bnd h
      obtain ⟨h, h5⟩ := bnd h
      obtain ⟨h, h4⟩ := bnd h
      obtain ⟨h, h3⟩ := bnd h
      obtain ⟨h1, h2⟩ := bnd h
      cases of_decide_eq_true h1
      exact ss_fld (okE i _ L X W g.g h6) (okE o _ L X W g.g h5) (g.g.cls _ (List.contains_iff_mem.mp h2)).1 (g.g.flds (c, f) (List.contains_iff_mem.mp h3)) h4
    · cases h
  | .ife c a b, st, g, h => by
    simp only [chkS] at h
    split at h
    · obtain ⟨h, h3⟩ := bnd h
      obtain ⟨h1, h2⟩ := bnd h
      exact ss_if (okE c _ L X W g.g h1) (okSs a _ g h2) (okSs b _ g h3)
    · cases h
  | .for_ t it b, st, g, h => by
    simp only [chkS] at h
    split at h
    · obtain ⟨h, h4⟩ := bnd h
      obtain ⟨h, h3⟩ := bnd h
      obtain ⟨h1, h2⟩ := bnd h
      exact ss_for g.hp g.g.calm (okIt it _ _ L X W g.g h2) (okTg t _ L X W g.g h3) (okSs b _ g h4) (folded_of h1 X.env)
    · cases h
  | .while_ c b, st, g, h => by
    simp only [chkS] at h
    split at h
    · obtain ⟨h1, h2⟩ := bnd h
      exact ss_while g.hp (okE c _ L X W g.g h1) (okSs b _ g h2)
    · cases h
  | .append o i, st, g, h => by
    simp only [chkS] at h
    split at h
    · obtain ⟨h, h5⟩ := bnd h
      obtain ⟨h, h4⟩ := bnd h
      obtain ⟨h, h3⟩ := bnd h
      obtain ⟨h1, h2⟩ := bnd h
      cases of_decide_eq_true h1
      exact ss_append (okE o _ L X W g.g h4) (okE i _ L X W g.g h5) h2 h3
    · cases h
  | .raise c, st, g, h => by
    simp only [chkS] at h
    split at h
    · obtain ⟨h, h4⟩ := bnd h
      obtain ⟨h, h3⟩ := bnd h
      obtain ⟨h1, h2⟩ := bnd h
      cases of_decide_eq_true h1
      obtain ⟨q1, q2⟩ := g.excs _ (List.contains_iff_mem.mp h4)
      exact ss_raise g.g.calm g.tk q1 q2 (g.g.gl h2) (plain_ok h3).1
    · cases h
termination_by structural x => x
theorem okSs : ∀ (s : Ss) (st : List Stmt), GoodS G L X T W C R → chkSs G L s st = true → PSs X st (tSs X T W C F s)
  | .nil, st, g, h => by
    simp only [chkSs] at h
    split at h
    · exact ss_nil
    · cases h
  | .cons s ss, st, g, h => by
    simp only [chkSs] at h
    split at h
    · obtain ⟨h1, h2⟩ := bnd h
      exact ss_cons (okS s _ g h1) (okSs ss _ g h2)
    · cases h
termination_by structural x => x
end
end
end Rf

/-! Rf: defs. -/
namespace Rf
open PySem PySem.Spec PyProof.Rows L2
/-! ### a call's end: the cells that the call made -/
section
variable {K : PySem.W.Frag} {T : List (Addr × Str)} {as : As} {H : Hp} {n : Nat}
theorem blt_lt {a b : Nat} (h : Nat.blt a b = true) : a < b := by
  have : Nat.ble (a + 1) b = true := h
  exact Nat.le_of_ble_eq_true this
def As.cut (as : As) (n : Nat) : As := ⟨as.l.take n, as.r⟩
theorem SqF.bel {a : Addr} {vs : List V} (h : SqF K as H a vs) : SqF K (as.cut n) H a vs := by
  rcases h with h | h | ⟨h, q, r⟩
  · exact .inl h
  · exact .inr (.inl h)
  · exact .inr (.inr ⟨h, fun hm => q (List.mem_of_mem_take hm), r⟩)
mutual
theorem Rep.bel : ∀ {d : D} {v : V}, Rf.below n d = true → Rep K as H d v → Rep K (as.cut n) H d v
  | _, _, _, .non => .non
  | _, _, _, .bl b => .bl b
  | _, _, _, .int i => .int i
  | _, _, _, .str x => .str x
  | _, _, h, .tup q r => .tup q (Reps.bel (by simpa only [Rf.below] using h) r)
  | _, _, h, .lst q a b r => .lst q (fun hm => a (List.mem_of_mem_take hm)) b (Reps.bel (by simpa only [Rf.below] using h) r)
  | _, _, h, .ref q => .ref (by
      have h := blt_lt (show Nat.blt _ n = true by simpa only [Rf.below] using h)
      show (as.l.take n)[_]? = _
      rw [List.getElem?_take_of_lt h]
      exact q)
  | _, _, h, .kl q r => .kl q.bel (Reps.bel (by simpa only [Rf.below] using h) r)
theorem Reps.bel : ∀ {d : List D} {v : List V}, Rf.belows n d = true → Reps K as H d v → Reps K (as.cut n) H d v
  | _, _, _, .nil => .nil
  | _, _, h, .cons a b => by
    simp only [Rf.belows, Bool.and_eq_true] at h
    exact .cons (Rep.bel h.1 a) (Reps.bel h.2 b)
end
theorem FReps.bel : ∀ {d : List (Str × D)} {v : List (Str × V)}, (d.all fun p => Rf.below n p.2) = true → FReps K as H d v → FReps K (as.cut n) H d v
  | _, _, _, .nil => .nil
  | _, _, h, .cons a b => by
    simp only [List.all_cons, Bool.and_eq_true] at h
    exact .cons (Rep.bel h.1 a) (FReps.bel h.2 b)
theorem Sim.cut {st : Hs} (s : Sim K T st as H) (h : (st.take n).all (belowO n) = true) : Sim K T (st.take n) (as.cut n) H where
  len := by
    show (as.l.take n).length = _
    rw [List.length_take, List.length_take, s.len]
  nd := s.nd.sublist (List.take_sublist _ _)
  rn := s.rn
  rs := fun a ha => by
    obtain ⟨h1, h2⟩ := s.rs a ha
    exact ⟨fun hm => h1 (List.mem_of_mem_take hm), h2⟩
  obj := fun m o a h1 h2 => by
    have hm : m < n := by
      have := (List.getElem?_eq_some_iff.mp h1).1
      rw [List.length_take] at this
      omega
    have hb : belowO n o = true := List.all_eq_true.mp h o (List.mem_of_getElem? h1)
    rw [List.getElem?_take_of_lt hm] at h1
    have h2 : (as.l.take n)[m]? = some a := h2
    rw [List.getElem?_take_of_lt hm] at h2
    have hq := s.obj m o a h1 h2
    cases o with
    | lst ds =>
      obtain ⟨vs, g1, g2⟩ := hq
      exact ⟨vs, g1, g2.bel hb⟩
    | ins c fs =>
      obtain ⟨dx, vs, g1, g2⟩ := hq
      exact ⟨dx, vs, g1, g2.bel hb⟩
  tab := s.tab
theorem optMap_ok {g : D → Option D} (hg : ∀ d d' v, g d = some d' → Rep K as H d v → Rep K (as.cut n) H d' v) : ∀ {ds : List D} {ds' : List D} {vs : List V}, optMap g ds = some ds' → Reps K as H ds vs → Reps K (as.cut n) H ds' vs := by
  intro ds
  induction ds with
  | nil =>
    intro ds' vs h r
    cases h
    cases r
    exact .nil
  | cons d ds ih =>
    intro ds' vs h r
    cases r with
    | cons a b =>
      simp only [optMap] at h
      split at h
      · rename_i x hx
        obtain ⟨es, h1, rfl⟩ := Option.map_eq_some_iff.mp h
        exact .cons (hg _ _ _ hx a) (ih h1 b)
      · cases h
theorem frz_ok {st : Hs} (s : Sim K T st as H) : ∀ (k : Nat) (d d' : D) (v : V), frz st n k d = some d' → Rep K as H d v → Rep K (as.cut n) H d' v := by
  intro k
  induction k with
  | zero =>
    intro d d' v h r
    unfold frz at h
    split at h
    · rename_i hb
      cases h
      exact r.bel hb
    · cases h
  | succ k ih =>
    intro d d' v h r
    cases r with
    | non => cases h; exact .non
    | bl b => cases h; exact .bl b
    | int b => cases h; exact .int b
    | str b => cases h; exact .str b
    | tup q r =>
      obtain ⟨ds', h1, rfl⟩ := Option.map_eq_some_iff.mp (show Option.map D.tup (optMap (frz st n k) _) = some d' from h)
      exact .tup q (optMap_ok ih h1 r)
    | lst q a b r =>
      obtain ⟨ds', h1, rfl⟩ := Option.map_eq_some_iff.mp (show Option.map D.lst (optMap (frz st n k) _) = some d' from h)
      exact .lst q (fun hm => a (List.mem_of_mem_take hm)) b (optMap_ok ih h1 r)
    | @kl l vs es q r =>
      have h : (if belows n es = true then some (D.kl es) else none) = some d' := h
      split at h
      · rename_i hb
        cases h
        exact .kl q.bel (r.bel hb)
      · cases h
    | @ref m l q =>
      unfold frz at h
      dsimp only at h
      split at h
      · rename_i hb
        cases h
        refine .ref ?_
        show (as.l.take n)[m]? = _
        rw [List.getElem?_take_of_lt (blt_lt hb)]
        exact q
      · rename_i hb
        split at h
        · rename_i ds hds
          obtain ⟨ds', h1, rfl⟩ := Option.map_eq_some_iff.mp h
          obtain ⟨l', g1, gm, vs, g2, g3⟩ := s.at hds
          rw [q] at g1
          cases g1
          have hmn : n ≤ m := by
            rcases Nat.lt_or_ge m n with z | z
            · exact absurd (show Nat.blt m n = true from Nat.ble_eq_true_of_le z) hb
            · exact z
          refine .lst (.inl g2) (fun hm => ?_) (fun hr => (s.rs l hr).1 gm) (optMap_ok ih h1 g3)
          have hm : l ∈ as.l.take n := hm
          obtain ⟨j, hj⟩ := List.getElem?_of_mem hm
          have hjn : j < n := by
            have := (List.getElem?_eq_some_iff.mp hj).1
            rw [List.length_take] at this
            omega
          rw [List.getElem?_take_of_lt hjn] at hj
          have := Sim.write.nodup_ix2 s.nd hj q
          omega
        · cases h
theorem Ext.cut {as' : As} {H' : Hp} (e : Ext as H as' H') (h : as.l.length = n) : Ext as H (as'.cut n) H' where
  pre := by
    obtain ⟨m, q⟩ := e.pre
    refine ⟨[], ?_⟩
    show as'.l.take n = _
    rw [q, ← h, List.append_nil, List.take_left]
  res1 := e.res1
  res2 := e.res2
  new := fun a ha na => e.new a (List.mem_of_mem_take ha) na
  keep := e.keep
  tbl := e.tbl
/-- behind a call -/
theorem fin_ok {W : Str → Hp → Prop} {Q : VK} {st st' : Hs} {as' : As} {H' : Hp} {d : D} {v : V} {clean : Bool} (s : Sim K T st as H) (p : Post K T W (Rep K) as H Q (fin clean st.length d st')) (e : Ext as H as' H') (s' : Sim K T st' as' H') (r : Rep K as' H' d v) : Q v H' := by
  unfold fin at p
  split at p
  · exact p as' H' v e s' r
  · split at p
    · split at p
      · rename_i d' hd
        split at p
        · rename_i hb
          exact p (as'.cut st.length) H' v (e.cut s.len) (s'.cut hb) (frz_ok s' 12 _ _ _ hd r)
        · exact p.elim
      · exact p.elim
    · exact p as' H' v e s' r
end

/-! ### defs -/
structure Def where
  name : Str
  qual : Str
  cls : Option Str
  ps : List Str
  N : List Str
  params : Arguments
  body : List Stmt
  scope : Scope
  lam : Bool
  fn : Fn
def Def.at_ (d : Def) : Str × Option Str := match d.cls with
  | none => (d.name, none)
  | some c => (c, some d.name)
def Def.site (d : Def) : Site := ⟨d.N, d.scope, fun _ => true, d.lam⟩
def nodupB : List Str → Bool
  | [] => true
  | x :: xs => !xs.contains x && nodupB xs
theorem nodupB_ok : ∀ {xs : List Str}, nodupB xs = true → xs.Nodup
  | [], _ => .nil
  | x :: xs, h => by
    obtain ⟨h1, h2⟩ := bnd h
    refine List.nodup_cons.mpr ⟨fun hm => ?_, nodupB_ok h2⟩
    rw [List.contains_iff_mem.mpr hm] at h1
    cases h1
def chkD (G : Gd) (d : Def) : Bool :=
  decide (d.scope.kind = .function) && !d.scope.isCoroutine && !d.scope.isGenerator && nodupB d.N && decide (d.N.take d.ps.length = d.ps) && (d.ps.all fun x => locB d.scope x) && (d.scope.names.all fun y => decide (y.2 ≠ .free)) &&
  decide (d.fn.size = d.N.length) && decide (d.fn.pars = d.ps.length) && chkSs G d.site d.fn.body d.body
theorem chkD_scope {G : Gd} {d : Def} (h : chkD G d = true) : FnScope d.N d.ps d.scope ∧ d.fn.size = d.N.length ∧ d.fn.pars = d.ps.length ∧ chkSs G d.site d.fn.body d.body = true := by
  obtain ⟨h, h10⟩ := bnd h
  obtain ⟨h, h9⟩ := bnd h
  obtain ⟨h, h8⟩ := bnd h
  obtain ⟨h, h7⟩ := bnd h
  obtain ⟨h, h6⟩ := bnd h
  obtain ⟨h, h5⟩ := bnd h
  obtain ⟨h, h4⟩ := bnd h
  obtain ⟨h, h3⟩ := bnd h
  obtain ⟨h1, h2⟩ := bnd h
  refine ⟨⟨of_decide_eq_true h1, by simpa using h2, by simpa using h3, nodupB_ok h4, of_decide_eq_true h5, fun x hx => ?_, fun y hy => of_decide_eq_true (List.all_eq_true.mp h7 y hy)⟩, of_decide_eq_true h8, of_decide_eq_true h9, h10⟩
  have := List.all_eq_true.mp h6 x hx
  unfold locB at this
  split at this
  · rename_i e; exact .inl e
  · rename_i e; exact .inr e
  · cases this
def gF (x : Str) (n : Nat) : Option ((Str × Option Str) × Nat) := some ((x, none), n)
def gM (c m : Str) (n : Nat) : Option ((Str × Option Str) × Nat) := some ((c, some m), n)
/-- what stands behind the head -/
structure Facts (K : PySem.W.Frag) (mg : Str → Option Value) (G : Gd) (ds : List (Option Def)) : Prop where
  free : ∀ x ∈ G.free, mg x = none
  gints : ∀ p ∈ G.gints, ∃ t, mg p.1 = some (.int p.2 t)
  tups : ∀ p ∈ G.tups, ∃ g, mg p.1 = some (.ref g) ∧ ∀ H, SqT K H g (p.2.map V.str)
  excs : ∀ x ∈ G.excs, (He.Fa.exc x).ok K = true ∧ mg x = some (.ref (He.ga K x))
  fn : ∀ (i : Nat) (d : Def), ds[i]? = some (some d) → ∃ fd, FunD K d.name d.qual d.params d.body d.scope [] [] (He.fAd K d.at_) fd ∧ Binds K fd d.ps []
  glo : ∀ (i : Nat) (d : Def), ds[i]? = some (some d) → d.cls = none → mg d.name = some (.ref (He.fAd K (d.name, none)))
  cls : ∀ c ∈ G.classes, Cls K (He.ga K c) ∧ Mk K (He.ga K c) (He.fAd K (c, some ("__init__" : Str))) ∧ mg c = some (.ref (He.ga K c))
  own : ∀ c ∈ G.classes, OwnC K (He.ga K c)
  flds : ∀ p ∈ G.flds, NoAttr K (He.ga K p.1) p.2
  mths : ∀ (i : Nat) (d : Def) (c : Str), ds[i]? = some (some d) → d.cls = some c → Meth K (He.ga K c) d.name (He.fAd K (c, some d.name))
  fns : G.fns = ds.map (Option.map fun d => (d.at_, d.ps.length))
def fnsOf (ds : List (Option Def)) : List (Option Fn) := ds.map (Option.map (·.fn))
/-- the level of a def nested n deep -/
def lev (n : Nat) : Nat := 5 * n + 5
theorem start_env {K : PySem.W.Frag} {as : As} {H : Hp} {ds : List D} {vs : List V} {f : Fn} {N : List Str} (hs : f.size = N.length) (r : Reps K as H ds vs) : REnv K as H (startR f ds) (L2.start N vs) := by
  have hl := r.length
  refine ⟨by unfold startR L2.start; simp [hs, hl], fun i d h => ?_⟩
  unfold startR at h
  have hi : i < ds.length := by
    by_cases hi : i < ds.length
    · exact hi
    · rw [List.getElem?_append_right (by simpa using hi), List.getElem?_replicate] at h
      split at h <;> cases h
  rw [List.getElem?_append_left (by simpa using hi), List.getElem?_map] at h
  cases q : ds[i]? with
  | none =>
    rw [q] at h
    cases h
  | some d' =>
    rw [q] at h
    cases h
    obtain ⟨v, h1, h2⟩ := r.get q
    refine ⟨v, ?_, h2⟩
    unfold L2.start
    have hv : i < vs.length := (List.getElem?_eq_some_iff.mp h1).1
    rw [List.getElem?_append_left (by simpa using hv), List.getElem?_map, h1]
    rfl
section
variable {P : Program} {w : World} {K : PySem.W.Frag} {mg : Str → Option Value} {base : Heap} {G : Gd} {ds : List (Option Def)} {T : List (Addr × Str)} {F : Nat}
theorem fns_at (hF : Facts K mg G ds) {j : Nat} {a : Str × Option Str} {m : Nat} (hj : G.fns[j]? = some (some (a, m))) : ∃ d, ds[j]? = some (some d) ∧ d.at_ = a ∧ d.ps.length = m := by
  rw [hF.fns, List.getElem?_map, Option.map_eq_some_iff] at hj
  obtain ⟨o, hd', e⟩ := hj
  cases o with
  | none => cases e
  | some d =>
    cases e
    exact ⟨d, hd', rfl, rfl⟩
/-- what a def's lambdas are called -/
def lamQ (q : Str) : Str := (q ++ ".<locals>.") ++ "<lambda>"
/-- a def that makes lambdas: its code object has a table -/
def LamD (K : PySem.W.Frag) (mg : Str → Option Value) (base : Heap) (T : List (Addr × Str)) (d : Def) : Prop :=
  ∀ (oc : Value) (od : Option Addr) (fd : FuncData) (osl : Array (Option Value)) (c : Addr), K.lookup (He.fAd K d.at_) = some ⟨oc, od, .func fd, osl⟩ → fd.code = .ref c →
    ∃ P, LamX.TabB base mg c P ∧ (P, lamQ d.qual) ∈ T ∧ ∀ p ∈ T, p.1 = P → p.2 = lamQ d.qual
theorem callN_some {fs : List (Option Fn)} {n i : Nat} {f : Fn} {as : List D} {st : Hs} (h : fs[i]? = some (some f)) : callN fs F (n + 1) i as st = runFn (callN fs F n) F f as st := by
  simp only [callN, h]
/-- a def, its callees known -/
theorem defs_step (hF : Facts K mg G ds) (hc : ∀ (i : Nat) (d : Def), ds[i]? = some (some d) → chkD G d = true) (hL : ∀ (i : Nat) (d : Def), ds[i]? = some (some d) → d.lam = true → LamD K mg base T d ∧ ToldF P w K mg base) (n : Nat)
    (ih : ∀ (i : Nat) (d : Def), ds[i]? = some (some d) → ∀ fd, FunD K d.name d.qual d.params d.body d.scope [] [] (He.fAd K d.at_) fd → FnOk P w K mg base (L2N.CX P w) (lev n) (He.fAd K d.at_) fd d.ps (spOf K T (callN (fnsOf ds) F n) i d.ps.length))
    (i : Nat) (d : Def) (hd : ds[i]? = some (some d)) (fd : FuncData) (F0 : FunD K d.name d.qual d.params d.body d.scope [] [] (He.fAd K d.at_) fd) :
    FnOk P w K mg base (L2N.CX P w) (5 * n + 9 + 1) (He.fAd K d.at_) fd d.ps (spOf K T (callN (fnsOf ds) F (n + 1)) i d.ps.length) := by
  obtain ⟨S, hsz, hpr, hch⟩ := chkD_scope (hc i d hd)
  obtain ⟨oc, od, dV, kV, doc, pm, an, cdv, ct, osl, rfl, lk, hcd, _, _⟩ := F0.ex
  obtain ⟨c, rfl⟩ := He.codeIn_ref hcd
  refine fn_of (k := 5 * n + 9) lk hcd S (fun vs H Q E h => h.1) fun A outer s H vs Q E hr h => ?_
  obtain ⟨hl, es, st, as, sm, rp, p⟩ := h
  let X : Cx := cxOf (L2N.CX P w) P w K mg base d.N d.qual d.scope (He.fAd K d.at_) (.ref c) A outer s H E
  have tk0 : L2N.Takes X (fun cls d _ H => E cls d H) := L2N.takes_of rfl rfl rfl rfl
  have tk : L2N.Takes X (fun cls d _ H => EofW K (WofE K E) cls d H) := tk0.imp fun c d σ H h => EofW_of h
  have hr : Room (5 * n + 9) (A.deeper (envOfC d.qual d.scope s.heap.objs.size (He.fAd K d.at_) (.ref c))) := hr
  have lamk : d.lam = true → LamK X T ∧ ToldF X.prog X.w X.K X.mg X.base ∧ Room (lev n + 3) X.A ∧ 1 ≤ lev n := by
    intro hlm
    obtain ⟨l1, l2⟩ := hL i d hd hlm
    unfold LamD at l1
    have hcode : (PySem.W.fnOf d.name d.qual d.params d.body d.scope dV kV doc pm an (.ref c) ct).code = .ref c := rfl
    have l3 := l1 oc od _ osl c lk hcode
    obtain ⟨P', q1, q2, q3⟩ := l3
    have h1 : LamK X T := ⟨c, P', q1, rfl, q2, q3⟩
    have h2 : Room (lev n + 3) X.A := hr.mono (by unfold lev; omega)
    have h3 : 1 ≤ lev n := by unfold lev; omega
    exact ⟨h1, l2, h2, h3⟩
  have g : GoodS G d.site X T (WofE K E) (callN (fnsOf ds) F n) (lev n) := {
    g := {
      N := rfl
      nd := S.nd
      sc := rfl
      fn := rfl
      calm := rfl
      un := by have := hr.un; show (A.deeper _).units + 65 < cLine; omega
      free := hF.free
      gints := hF.gints
      tups := hF.tups
      fns := fun j a m hj => by
        obtain ⟨d', hd', rfl, rfl⟩ := fns_at hF hj
        obtain ⟨fd', F1, h2⟩ := hF.fn j d' hd'
        exact ⟨⟨fd', d'.ps, ih j d' hd' fd' F1, rfl, h2⟩⟩
      fng := fun j x m hj => by
        obtain ⟨d', hd', e, _⟩ := fns_at hF hj
        obtain ⟨fd', F1, h2⟩ := hF.fn j d' hd'
        have hcl : d'.cls = none := by
          cases z : d'.cls with
          | none => rfl
          | some c =>
            unfold Def.at_ at e
            rw [z] at e
            cases e
        have hnm : d'.name = x := by
          unfold Def.at_ at e
          rw [hcl] at e
          cases e
          rfl
        have kp := F1.kp
        rw [e] at kp
        have mg' := hF.glo j d' hd' hcl
        rw [hnm] at mg'
        exact ⟨mg', kp⟩
      cls := hF.cls
      own := hF.own
      flds := hF.flds
      mths := fun j c m k hj => by
        obtain ⟨d', hd', e, _⟩ := fns_at hF hj
        cases z : d'.cls with
        | none =>
          unfold Def.at_ at e
          rw [z] at e
          cases e
        | some c' =>
          have := hF.mths j d' c' hd' z
          unfold Def.at_ at e
          rw [z] at e
          cases e
          exact this
      room := hr.mono (by unfold lev; omega)
      lam := fun hlm => lamk hlm
      pass := L2N.passes_call tk fun _ _ _ _ h => h }
    kind := S.kind
    hp := passes_of rfl
    tk := tk
    excs := hF.excs }
  have body := okSs (F := F) d.fn.body d.body g hch
  refine ⟨_, body, startR d.fn es, st, as, sm, start_env hsz rp, ?_⟩
  have e0 : (fnsOf ds)[i]? = some (some d.fn) := by
    unfold fnsOf
    rw [List.getElem?_map, hd]
    rfl
  rw [callN_some e0] at p
  unfold runFn at p
  split at p
  · show PostS K T (WofE K E) _ as H (evSs (callN (fnsOf ds) F n) F d.fn.body (startR d.fn es) st)
    cases q : evSs (callN (fnsOf ds) F n) F d.fn.body (startR d.fn es) st with
    | next ρ' st' =>
      rw [q] at p
      exact fun as' H' σ' e' s' r' => fin_ok sm p e' s' .non
    | ret x st' =>
      rw [q] at p
      exact fun as' H' v e' s' r' => fin_ok sm p e' s' r'
    | exc c st' =>
      rw [q] at p
      dsimp only at p
      intro as' H' e' s'
      split at p
      · exact p as' H' e' s'
      · split at p
        · rename_i hb
          exact p (as'.cut st.length) H' (e'.cut sm.len) (s'.cut hb)
        · exact p.elim
    | stuck =>
      rw [q] at p
      exact p
  · exact p.elim
/-- every def of the table, nested n deep -/
theorem defs_ok (hF : Facts K mg G ds) (hc : ∀ (i : Nat) (d : Def), ds[i]? = some (some d) → chkD G d = true) (hL : ∀ (i : Nat) (d : Def), ds[i]? = some (some d) → d.lam = true → LamD K mg base T d ∧ ToldF P w K mg base) (n : Nat) :
    ∀ (i : Nat) (d : Def), ds[i]? = some (some d) → ∀ fd, FunD K d.name d.qual d.params d.body d.scope [] [] (He.fAd K d.at_) fd →
    FnOk P w K mg base (L2N.CX P w) (lev n) (He.fAd K d.at_) fd d.ps (spOf K T (callN (fnsOf ds) F n) i d.ps.length) := by
  induction n with
  | zero =>
    intro i d hd fd F0
    exact ⟨fun vs H Q E h => h.1, fun A outer s H args us vs Q E hr he hb hv hs => by
      obtain ⟨_, ds', st, as, _, _, p⟩ := hs
      exact p.elim⟩
  | succ n ih =>
    intro i d hd fd F0
    have := defs_step hF hc hL n ih i d hd fd F0
    rw [show lev (n + 1) = 5 * n + 9 + 1 by unfold lev; omega]
    exact this
end
end Rf

/-! Rf: from the head's facts to the law. -/
namespace Rf
open PySem PySem.Spec PyProof.Rows L2
/-- the defs that stand in the table -/
def defsOf (ds : List (Option Def)) : List Def := ds.filterMap id
theorem mem_defsOf {ds : List (Option Def)} {i : Nat} {d : Def} (h : ds[i]? = some (some d)) : d ∈ defsOf ds := List.mem_filterMap.mpr ⟨some d, List.mem_of_getElem? h, rfl⟩
def faOf (G : Gd) (ds : List (Option Def)) : List He.Fa :=
  ((defsOf ds).filterMap fun d => match d.cls with
    | none => some (.glo d.name)
    | some _ => none) ++ (((defsOf ds).filterMap fun d => match d.cls with
    | none => none
    | some c => some (.meth c d.name)) ++ (G.free.map .free ++ (G.gints.map (fun p => .int p.1 p.2) ++ (G.excs.map .exc ++ (G.excs.map .glo ++ (G.classes.map .cls ++ (G.classes.map .mkr ++ (G.classes.map .glo ++ G.flds.map fun p => .noat p.1 p.2))))))))
def ddOf (ds : List (Option Def)) : List He.DefD := (defsOf ds).map fun d => ⟨d.at_, d.name, d.qual, d.params, d.body, d.scope, [], []⟩
def lamsOf (ds : List (Option Def)) : List Def := (defsOf ds).filter (·.lam)
def tfOf (ds : List (Option Def)) : List He.Defn := (lamsOf ds).map Def.at_
/-- the tables of the defs that make lambdas are apart -/
def apartB (ds : List (Option Def)) (K : PySem.W.Frag) : Bool := (lamsOf ds).all fun a => (lamsOf ds).all fun b => !((He.cT K a.at_).2 == (He.cT K b.at_).2) || decide (a.qual = b.qual)
def tabB (G : Gd) (K : PySem.W.Frag) : Bool := (G.tups.all fun p => He.Fa.ok K (.glo p.1) && He.tupB K p.1 (p.2.map .str)) && G.classes.all (ownB K)
def BindOk (d : Def) : Prop := ∀ (kV doc pm : Value) (an : Option Addr) (cdv ct : Value) (us : List Value), us.length = d.ps.length → bindArgs (PySem.W.fnOf d.name d.qual d.params d.body d.scope .none kV doc pm an cdv ct) ⟨us, []⟩ = pure (d.ps.zip us)
abbrev TOf (K : PySem.W.Frag) (ds : List (Option Def)) : List (Addr × Str) := (lamsOf ds).map fun d => ((He.cT K d.at_).2, lamQ d.qual)
theorem facts_of {K : PySem.W.Frag} {h : Heap} {mg : Str → Option Value} {G : Gd} {ds : List (Option Def)} (X : K.In h) (N : h.Ns mainGlobals mg) (c : ∀ f ∈ faOf G ds, f.ok K = true) (cd : ∀ d ∈ ddOf ds, ∃ fd, FunD K d.name d.qual d.params d.body d.scope (d.dvs K) (d.kws K) (He.fAd K d.at_) fd) (hb : ∀ d ∈ defsOf ds, BindOk d) (ht : tabB G K = true) (hf : G.fns = ds.map (Option.map fun d => (d.at_, d.ps.length))) : Facts K mg G ds where
  free := fun x hx => He.free_ok X N (c _ (by unfold faOf; simp only [List.mem_append, List.mem_map]; exact .inr (.inr (.inl ⟨x, hx, rfl⟩))))
  gints := fun p hp => He.int_ok X N (c _ (by unfold faOf; simp only [List.mem_append, List.mem_map]; exact .inr (.inr (.inr (.inl ⟨p, hp, rfl⟩)))))
  tups := fun p hp => by
    obtain ⟨h1, h2⟩ := bnd (List.all_eq_true.mp (bnd ht).1 p hp)
    refine ⟨He.ga K p.1, He.glo_ok X N h1, fun H => ?_⟩
    have := He.tupB_ok h2 H
    rw [List.map_map] at this
    exact this
  excs := fun x hx => ⟨c _ (by unfold faOf; simp only [List.mem_append, List.mem_map]; exact .inr (.inr (.inr (.inr (.inl ⟨x, hx, rfl⟩))))),
    He.glo_ok X N (c _ (by unfold faOf; simp only [List.mem_append, List.mem_map]; exact .inr (.inr (.inr (.inr (.inr (.inl ⟨x, hx, rfl⟩)))))))⟩
  fn := fun i d hd => by
    have hm := mem_defsOf hd
    obtain ⟨fd, F⟩ := cd ⟨d.at_, d.name, d.qual, d.params, d.body, d.scope, [], []⟩ (List.mem_map.mpr ⟨d, hm, rfl⟩)
    have F : FunD K d.name d.qual d.params d.body d.scope [] [] (He.fAd K d.at_) fd := F
    exact ⟨fd, F, F.bindsN (hb d hm)⟩
  glo := fun i d hd hc => He.glo_ok X N (c _ (by
    unfold faOf
    simp only [List.mem_append, List.mem_filterMap]
    refine .inl ⟨d, mem_defsOf hd, ?_⟩
    rw [hc]))
  cls := fun x hx => ⟨He.cls_ok (c _ (by unfold faOf; simp only [List.mem_append, List.mem_map]; exact .inr (.inr (.inr (.inr (.inr (.inr (.inl ⟨x, hx, rfl⟩)))))))),
    He.mkr_ok (c _ (by unfold faOf; simp only [List.mem_append, List.mem_map]; exact .inr (.inr (.inr (.inr (.inr (.inr (.inr (.inl ⟨x, hx, rfl⟩))))))))),
    He.glo_ok X N (c _ (by unfold faOf; simp only [List.mem_append, List.mem_map]; exact .inr (.inr (.inr (.inr (.inr (.inr (.inr (.inr (.inl ⟨x, hx, rfl⟩))))))))))⟩
  own := fun x hx => ownC_of (List.all_eq_true.mp (bnd ht).2 x hx)
  flds := fun p hp => He.noat_ok (c _ (by unfold faOf; simp only [List.mem_append, List.mem_map]; exact .inr (.inr (.inr (.inr (.inr (.inr (.inr (.inr (.inr ⟨p, hp, rfl⟩)))))))))) 
  mths := fun i d cl hd hc => He.meth_ok (c _ (by
    unfold faOf
    simp only [List.mem_append, List.mem_filterMap]
    refine .inr (.inl ⟨d, mem_defsOf hd, ?_⟩)
    rw [hc]))
  fns := hf
/-- the law's answer: true -/
def saysTrue : Res D → Prop
  | .ok (.bl true) _ => True
  | _ => False
theorem mem_at {ds : List (Option Def)} {d : Def} (h : d ∈ defsOf ds) : ∃ i : Nat, ds[i]? = some (some d) := by
  obtain ⟨o, ho, e⟩ := List.mem_filterMap.mp h
  have e : o = some d := e
  subst e
  exact List.getElem?_of_mem ho
/-- what the end wants of the law's def -/
theorem law_end {l : PySem.W.OpenLaw} {w : World} {K : PySem.W.Frag} {h : Heap} {mg : Str → Option Value} {fa : Addr} {G : Gd} {ds : List (Option Def)} {ex : PySem.W.Frag → Bool} {fa2 : List He.Fa} {dd2 : List He.DefD} {F n i : Nat} {d : Def} (X : K.In h) (N : h.Ns mainGlobals mg)
    (c : He.SaysX (faOf G ds ++ fa2) (ddOf ds ++ dd2) [] (tfOf ds) (fun K => ex K && (apartB ds K && tabB G K)) w h K) (hb : ∀ d ∈ defsOf ds, BindOk d)
    (hf : G.fns = ds.map (Option.map fun d => (d.at_, d.ps.length))) (hc : (defsOf ds).all (chkD G) = true) (hi : ds[i]? = some (some d)) (hps : d.ps = [("script" : Str)]) (hcl : d.cls = none) (hmg : mg d.name = some (.ref fa))
    (hT : ex K = true → Facts K mg G ds → (∀ f ∈ fa2, f.ok K = true) → (∀ d ∈ dd2, ∃ fd, FunD K d.name d.qual d.params d.body d.scope (d.dvs K) (d.kws K) (He.fAd K d.at_) fd) → ∀ base : Heap, K.In base → base.Ns mainGlobals mg → lamsOf ds ≠ [] → ToldF l.prog w K mg base)
    (law : ∀ ns : List Int, ns.length ≤ 63 → saysTrue (callN (fnsOf ds) F n i [.kl (ns.map .int)] [])) :
    LamX.LawAtS l w K (L2N.CX l.prog w) (lev n) 63 "script" mg fa h := by
  obtain ⟨m1, m2⟩ := bnd c.more
  obtain ⟨m2, m3⟩ := bnd m2
  have hF := facts_of X N (fun f hf => c.t.d.facts (List.mem_append_left _ hf)) (fun d hd => c.t.d.defs (List.mem_append_left _ hd)) hb m3 hf
  have hc' : ∀ (i : Nat) (d : Def), ds[i]? = some (some d) → chkD G d = true := fun i d h => List.all_eq_true.mp hc d (mem_defsOf h)
  obtain ⟨fd, F0, h2⟩ := hF.fn i d hi
  have hgl := hF.glo i d hi hcl
  rw [hgl] at hmg
  cases hmg
  have hat : d.at_ = (d.name, none) := by
    unfold Def.at_
    rw [hcl]
  have b := FunD.bindsA (ps := d.ps) F0 (hb d (mem_defsOf hi))
  have memC : ∀ p ∈ (lamsOf ds).map (fun d => He.cT K d.at_), ∃ q ∈ tfOf ds, p = He.cT K q := fun p hp => by
    obtain ⟨d', hd', rfl⟩ := List.mem_map.mp hp
    exact ⟨d'.at_, List.mem_map.mpr ⟨d', hd', rfl⟩, rfl⟩
  refine ⟨fd, (lamsOf ds).map (fun d => He.cT K d.at_), spOf K (TOf K ds) (callN (fnsOf ds) F n) i d.ps.length, fun p hp => ?_, fun p hp => ?_, fun p hp => ?_, fun s u => ?_, fun H a ns hl _ hH hS => ?_, fun base KB NB TB => ?_⟩
  · obtain ⟨q, hq, rfl⟩ := memC p hp
    exact c.empty q hq
  · obtain ⟨q, hq, rfl⟩ := memC p hp
    exact c.out q hq
  · obtain ⟨q, hq, rfl⟩ := memC p hp
    exact PySem.W.codeHd_of_K X (c.hd q hq)
  · have := b s [u] (by rw [hps]; rfl)
    rw [hps] at this
    exact this
  · have ht : LamX.Tabs (TOf K ds) H := fun p hp => by
      obtain ⟨d', hd', rfl⟩ := List.mem_map.mp hp
      exact LamX.TabS.nil (hH (He.cT K d'.at_) (List.mem_map.mpr ⟨d', hd', rfl⟩))
    refine ⟨by rw [hps]; rfl, [.kl (ns.map .int)], [], ⟨[], []⟩, ⟨rfl, .nil, .nil, fun a h => (by cases h), fun n o a h => (by cases h), ht⟩, .cons (.kl (vs := ns.map V.int) ?_ ?_) .nil, ?_⟩
    · rcases hS with (h | h) | h
      · exact .inr (.inr ⟨h, fun z => (by cases z), fun z => (by cases z)⟩)
      · exact .inl h
      · exact .inr (.inl h)
    · have : ∀ ns : List Int, Reps K ⟨[], []⟩ H (ns.map D.int) (ns.map V.int) := fun ns => by
        induction ns with
        | nil => exact .nil
        | cons n ns ih => exact .cons (.int n) ih
      exact this ns
    · have := law ns hl
      cases q : callN (fnsOf ds) F n i [.kl (ns.map .int)] [] with
      | ok x st =>
        rw [q] at this
        intro as' H' v _ _ r
        cases x with
        | bl b =>
          cases b with
          | true => cases r; rfl
          | false => exact this.elim
        | _ => exact this.elim
      | exc c st =>
        rw [q] at this
        exact this.elim
      | stuck =>
        rw [q] at this
        exact this.elim
  · have hL : ∀ (i : Nat) (d : Def), ds[i]? = some (some d) → d.lam = true → LamD K mg base (TOf K ds) d ∧ ToldF l.prog w K mg base := fun j d' hj hlm => by
      have hml : d' ∈ lamsOf ds := List.mem_filter.mpr ⟨mem_defsOf hj, hlm⟩
      refine ⟨fun oc od fd' osl c0 lk hcode => ?_, hT m1 hF (fun f hf => c.t.d.facts (List.mem_append_right _ hf)) (fun d hd => c.t.d.defs (List.mem_append_right _ hd)) base KB NB (List.ne_nil_of_mem hml)⟩
      have hc0 : He.codeOf K d'.at_ = c0 := He.codeOf_eq lk hcode
      have tb := TB (He.cT K d'.at_) (List.mem_map.mpr ⟨d', hml, rfl⟩)
      refine ⟨(He.cT K d'.at_).2, ?_, List.mem_map.mpr ⟨d', hml, rfl⟩, fun p hp e => ?_⟩
      · rw [← hc0]
        exact tb
      · obtain ⟨d2, hd2, rfl⟩ := List.mem_map.mp hp
        have z := List.all_eq_true.mp (List.all_eq_true.mp m2 d2 hd2) d' hml
        rcases Bool.or_eq_true_iff.mp z with z | z
        · have e : (He.cT K d2.at_).2 = (He.cT K d'.at_).2 := e
          rw [e] at z
          simp at z
        · show lamQ d2.qual = lamQ d'.qual
          rw [of_decide_eq_true z]
    have := defs_ok (P := l.prog) (w := w) (base := base) (T := TOf K ds) (F := F) hF hc' hL n i d hi fd F0
    rw [hps] at this ⊢
    rw [hat] at this
    exact this
theorem CXn_no {P : Program} (w : World) (H : Hp) (s : Shared) (e : Value) (s' : Shared) (h : L2N.CX P w [] H s (fun _ _ _ => False) e s') : False := by
  obtain ⟨_, _, _, _, _, _, _, _, _, _, _, _, h⟩ := h
  exact h
end Rf

/-! Rf: calls by two tables that agree -/
namespace Rf
open PySem
section
variable (p : Nat → Bool)
mutual
/-- all defs that are called are told by p -/
def usE : E → Bool
  | .k _ => true
  | .v _ => true
  | .gi _ _ => true
  | .gt _ _ => true
  | .tup es => usEs es
  | .ofL l => usL l
  | .alloc l => usL l
  | .bin _ a b => usE a && usE b
  | .neg a => usE a
  | .not a => usE a
  | .cmp _ a b => usE a && usE b
  | .chain _ _ a b c => usE a && (usE b && usE c)
  | .isN a => usE a
  | .notN a => usE a
  | .bop _ es => usEs es
  | .ife c a b => usE c && (usE a && usE b)
  | .ix a b => usE a && usE b
  | .sl a lo hi => usE a && (usO lo && usO hi)
  | .rev a => usE a
  | .blt _ es => usEs es
  | .isi a _ => usE a
  | .idx a b => usE a && usE b
  | .call f es => p f && usEs es
  | .make _ f es => p f && usEs es
  | .meth _ _ f o es => p f && (usE o && usEs es)
  | .fld _ o _ => usE o
  | .told e => usE e
  | .gd _ _ e => usE e
  | .rngT e => usE e
  | .lenO _ f o => p f && usE o
  | .eqO _ f a b => p f && (usE a && usE b)
  | .isC _ a => usE a
def usEs : Es → Bool
  | .nil => true
  | .cons e es => usE e && usEs es
def usO : Oe → Bool
  | .none => true
  | .some e => usE e
def usL : L → Bool
  | .disp es => usEs es
  | .comp _ t it c e => usTg t && (usIt it && (usO c && usE e))
  | .cat a b => usE a && usE b
  | .rep a b => usE a && usE b
  | .listOf a => usE a
  | .sorted a => usE a
  | .sortedSet a => usE a
  | .rng a => usE a
def usIt : It → Bool
  | .seq a => usE a
  | .enum a => usE a
  | .rng1 a => usE a
  | .rng2 a b => usE a && usE b
def usTg : Tg → Bool
  | .name _ => true
  | .tup ts => usTgs ts
  | .sub o i => usE o && usE i
def usTgs : Tgs → Bool
  | .nil => true
  | .cons t ts => usTg t && usTgs ts
end
mutual
def usS : S → Bool
  | .expr e => usE p e
  | .ret e => usE p e
  | .asg t e => usTg p t && usE p e
  | .asgL _ _ l => usL p l
  | .fld _ o _ e => usE p o && usE p e
  | .ife c a b => usE p c && (usSs a && usSs b)
  | .for_ t it b => usTg p t && (usIt p it && usSs b)
  | .while_ c b => usE p c && usSs b
  | .append o e => usE p o && usE p e
  | .raise _ => true
def usSs : Ss → Bool
  | .nil => true
  | .cons s ss => usS s && usSs ss
end
end
section
variable {p : Nat → Bool} {C C' : Calls} {F : Nat} (hC : ∀ i, p i = true → C i = C' i)
include hC
mutual
theorem agE : ∀ e : E, usE p e = true → evE C F e = evE C' F e
  | .k _, _ => by funext ρ st; simp only [evE]
  | .v _, _ => by funext ρ st; simp only [evE]
  | .gi _ _, _ => by funext ρ st; simp only [evE]
  | .gt _ _, _ => by funext ρ st; simp only [evE]
  | .tup es, h => by simp only [usE] at h; funext ρ st; simp only [evE, agEs es h]
  | .ofL l, h => by simp only [usE] at h; funext ρ st; simp only [evE, agL l h]
  | .alloc l, h => by simp only [usE] at h; funext ρ st; simp only [evE, agL l h]
  | .bin _ a b, h => by simp only [usE, Bool.and_eq_true] at h; funext ρ st; simp only [evE, agE a h.1, agE b h.2]
  | .neg a, h => by simp only [usE] at h; funext ρ st; simp only [evE, agE a h]
  | .not a, h => by simp only [usE] at h; funext ρ st; simp only [evE, agE a h]
  | .cmp _ a b, h => by simp only [usE, Bool.and_eq_true] at h; funext ρ st; simp only [evE, agE a h.1, agE b h.2]
  | .chain _ _ a b c, h => by simp only [usE, Bool.and_eq_true] at h; funext ρ st; simp only [evE, agE a h.1, agE b h.2.1, agE c h.2.2]
  | .isN a, h => by simp only [usE] at h; funext ρ st; simp only [evE, agE a h]
  | .notN a, h => by simp only [usE] at h; funext ρ st; simp only [evE, agE a h]
  | .bop b es, h => by simp only [usE] at h; funext ρ st; simp only [evE, agB es h]
  | .ife c a b, h => by simp only [usE, Bool.and_eq_true] at h; funext ρ st; simp only [evE, agE c h.1, agE a h.2.1, agE b h.2.2]
  | .ix a b, h => by simp only [usE, Bool.and_eq_true] at h; funext ρ st; simp only [evE, agE a h.1, agE b h.2]
  | .sl a lo hi, h => by simp only [usE, Bool.and_eq_true] at h; funext ρ st; simp only [evE, agE a h.1, agO lo h.2.1, agO hi h.2.2]
  | .rev a, h => by simp only [usE] at h; funext ρ st; simp only [evE, agE a h]
  | .blt _ es, h => by simp only [usE] at h; funext ρ st; simp only [evE, agEs es h]
  | .isi a _, h => by simp only [usE] at h; funext ρ st; simp only [evE, agE a h]
  | .idx a b, h => by simp only [usE, Bool.and_eq_true] at h; funext ρ st; simp only [evE, agE a h.1, agE b h.2]
  | .call f es, h => by simp only [usE, Bool.and_eq_true] at h; funext ρ st; simp only [evE, agEs es h.2, hC f h.1]
  | .make _ f es, h => by simp only [usE, Bool.and_eq_true] at h; funext ρ st; simp only [evE, agEs es h.2, hC f h.1]
  | .meth _ _ f o es, h => by simp only [usE, Bool.and_eq_true] at h; funext ρ st; simp only [evE, agE o h.2.1, agEs es h.2.2, hC f h.1]
  | .fld _ o _, h => by simp only [usE] at h; funext ρ st; simp only [evE, agE o h]
  | .told e, h => by simp only [usE] at h; funext ρ st; simp only [evE, agE e h]
  | .gd _ _ e, h => by simp only [usE] at h; funext ρ st; simp only [evE, agE e h]
  | .rngT e, h => by simp only [usE] at h; funext ρ st; simp only [evE, agE e h]
  | .lenO _ f o, h => by simp only [usE, Bool.and_eq_true] at h; funext ρ st; simp only [evE, agE o h.2, hC f h.1]
  | .eqO _ f a b, h => by simp only [usE, Bool.and_eq_true] at h; funext ρ st; simp only [evE, agE a h.2.1, agE b h.2.2, hC f h.1]
  | .isC _ a, h => by simp only [usE] at h; funext ρ st; simp only [evE, agE a h]
theorem agEs : ∀ es : Es, usEs p es = true → evEs C F es = evEs C' F es
  | .nil, _ => by funext ρ st; simp only [evEs]
  | .cons e es, h => by simp only [usEs, Bool.and_eq_true] at h; funext ρ st; simp only [evEs, agE e h.1, agEs es h.2]
theorem agB : ∀ es : Es, usEs p es = true → ∀ c, evB C F c es = evB C' F c es
  | .nil, _, c => by funext ρ st; simp only [evB]
  | .cons e es, h, c => by simp only [usEs, Bool.and_eq_true] at h; funext ρ st; simp only [evB, agE e h.1, agB es h.2]
theorem agO : ∀ o : Oe, usO p o = true → evO C F o = evO C' F o
  | .none, _ => by funext ρ st; simp only [evO]
  | .some e, h => by simp only [usO] at h; funext ρ st; simp only [evO, agE e h]
theorem agC : ∀ o : Oe, usO p o = true → evC C F o = evC C' F o
  | .none, _ => by funext ρ st; simp only [evC]
  | .some e, h => by simp only [usO] at h; funext ρ st; simp only [evC, agE e h]
theorem agL : ∀ l : L, usL p l = true → evL C F l = evL C' F l
  | .disp es, h => by simp only [usL] at h; funext ρ st; simp only [evL, agEs es h]
  | .comp _ t it c e, h => by simp only [usL, Bool.and_eq_true] at h; funext ρ st; simp only [evL, agTg t h.1, agIt it h.2.1, agC c h.2.2.1, agE e h.2.2.2]
  | .cat a b, h => by simp only [usL, Bool.and_eq_true] at h; funext ρ st; simp only [evL, agE a h.1, agE b h.2]
  | .rep a b, h => by simp only [usL, Bool.and_eq_true] at h; funext ρ st; simp only [evL, agE a h.1, agE b h.2]
  | .listOf a, h => by simp only [usL] at h; funext ρ st; simp only [evL, agE a h]
  | .sorted a, h => by simp only [usL] at h; funext ρ st; simp only [evL, agE a h]
  | .sortedSet a, h => by simp only [usL] at h; funext ρ st; simp only [evL, agE a h]
  | .rng a, h => by simp only [usL] at h; funext ρ st; simp only [evL, agE a h]
theorem agIt : ∀ it : It, usIt p it = true → evIt C F it = evIt C' F it
  | .seq a, h => by simp only [usIt] at h; funext ρ st; simp only [evIt, agE a h]
  | .enum a, h => by simp only [usIt] at h; funext ρ st; simp only [evIt, agE a h]
  | .rng1 a, h => by simp only [usIt] at h; funext ρ st; simp only [evIt, agE a h]
  | .rng2 a b, h => by simp only [usIt, Bool.and_eq_true] at h; funext ρ st; simp only [evIt, agE a h.1, agE b h.2]
theorem agTg : ∀ t : Tg, usTg p t = true → evTg C F t = evTg C' F t
  | .name _, _ => by funext d ρ st; simp only [evTg]
  | .tup ts, h => by simp only [usTg] at h; funext d ρ st; simp only [evTg, agTgs ts h]
  | .sub o i, h => by simp only [usTg, Bool.and_eq_true] at h; funext d ρ st; simp only [evTg, agE o h.1, agE i h.2]
theorem agTgs : ∀ t : Tgs, usTgs p t = true → evTgs C F t = evTgs C' F t
  | .nil, _ => by funext d ρ st; simp only [evTgs]
  | .cons t ts, h => by simp only [usTgs, Bool.and_eq_true] at h; funext d ρ st; simp only [evTgs, agTg t h.1, agTgs ts h.2]
end
mutual
theorem agS : ∀ s : S, usS p s = true → evS C F s = evS C' F s
  | .expr e, h => by simp only [usS] at h; funext ρ st; simp only [evS, agE hC e h]
  | .ret e, h => by simp only [usS] at h; funext ρ st; simp only [evS, agE hC e h]
  | .asg t e, h => by simp only [usS, Bool.and_eq_true] at h; funext ρ st; simp only [evS, agTg hC t h.1, agE hC e h.2]
  | .asgL _ _ l, h => by simp only [usS] at h; funext ρ st; simp only [evS, agL hC l h]
  | .fld _ o _ e, h => by simp only [usS, Bool.and_eq_true] at h; funext ρ st; simp only [evS, agE hC o h.1, agE hC e h.2]
  | .ife c a b, h => by simp only [usS, Bool.and_eq_true] at h; funext ρ st; simp only [evS, agE hC c h.1, agSs a h.2.1, agSs b h.2.2]
  | .for_ t it b, h => by simp only [usS, Bool.and_eq_true] at h; funext ρ st; simp only [evS, agTg hC t h.1, agIt hC it h.2.1, agSs b h.2.2]
  | .while_ c b, h => by simp only [usS, Bool.and_eq_true] at h; funext ρ st; simp only [evS, agE hC c h.1, agSs b h.2]
  | .append o e, h => by simp only [usS, Bool.and_eq_true] at h; funext ρ st; simp only [evS, agE hC o h.1, agE hC e h.2]
  | .raise _, _ => by funext ρ st; simp only [evS]
theorem agSs : ∀ s : Ss, usSs p s = true → evSs C F s = evSs C' F s
  | .nil, _ => by funext ρ st; simp only [evSs]
  | .cons s ss, h => by simp only [usSs, Bool.and_eq_true] at h; funext ρ st; simp only [evSs, agS s h.1, agSs ss h.2]
end
end
/-- defs told by p, that call such ones only, answer alike by two tables -/
theorem agree {p : Nat → Bool} {fs gs : List (Option Fn)} (h : ∀ i, p i = true → fs[i]? = gs[i]? ∧ ∀ f, fs[i]? = some (some f) → usSs p f.body = true) (F : Nat) : ∀ (n i : Nat), p i = true → callN fs F n i = callN gs F n i
  | 0, i, _ => rfl
  | n + 1, i, hi => by
    obtain ⟨e, u⟩ := h i hi
    funext ds st
    simp only [callN, ← e]
    cases hf : fs[i]? with
    | none => rfl
    | some o => cases o with
      | none => rfl
      | some f =>
        simp only [runFn, agSs (agree h F n) f.body (u f hf)]
/-- so many told, by a list -/
theorem agree_of (S : List Nat) {fs gs : List (Option Fn)} (h1 : S.map (fun i => fs[i]?) = S.map (fun i => gs[i]?)) (h2 : (S.all fun i => match fs[i]? with
    | some (some f) => usSs (fun j => S.contains j) f.body
    | _ => true) = true) {F n i : Nat} (hi : S.contains i = true) : callN fs F n i = callN gs F n i := by
  refine agree (p := fun j => S.contains j) (fun j hj => ?_) F n i hi
  have hm : j ∈ S := by simpa using hj
  refine ⟨List.map_inj_left.mp h1 j hm, fun f hf => ?_⟩
  have := List.all_eq_true.mp h2 j hm
  rw [hf] at this
  exact this
end Rf

/-! Rf: a run does not hang on the cells that stood before: all is moved up. -/
namespace Rf
open PySem
mutual
/-- every cell's number k further -/
def mv (k : Nat) : D → D
  | .tup ds => .tup (mvs k ds)
  | .lst ds => .lst (mvs k ds)
  | .kl ds => .kl (mvs k ds)
  | .ref n => .ref (n + k)
  | .non => .non
  | .bl b => .bl b
  | .int i => .int i
  | .str x => .str x
  | .exc c => .exc c
def mvs (k : Nat) : List D → List D
  | [] => []
  | d :: ds => mv k d :: mvs k ds
end
theorem mvs_map (k : Nat) : ∀ ds, mvs k ds = ds.map (mv k)
  | [] => by simp [mvs]
  | d :: ds => by simp [mvs, mvs_map k ds]
def mvO (k : Nat) : O → O
  | .lst ds => .lst (ds.map (mv k))
  | .ins c fs => .ins c (fs.map fun p => (p.1, mv k p.2))
def mvH (B st : Hs) : Hs := B ++ st.map (mvO B.length)
def mvR (k : Nat) (ρ : Rho) : Rho := ρ.map (Option.map (mv k))
def mvX {α : Type} (B : Hs) (f : α → α) : Res α → Res α
  | .ok a st => .ok (f a) (mvH B st)
  | .exc c st => .exc c (mvH B st)
  | .stuck => .stuck
def mvS (B : Hs) : SR → SR
  | .next ρ st => .next (mvR B.length ρ) (mvH B st)
  | .ret d st => .ret (mv B.length d) (mvH B st)
  | .exc c st => .exc c (mvH B st)
  | .stuck => .stuck
section
variable {B : Hs}
theorem mvH_len (st : Hs) : (mvH B st).length = st.length + B.length := by
  unfold mvH
  rw [List.length_append, List.length_map]
  omega
theorem mvH_get (st : Hs) (n : Nat) : (mvH B st)[n + B.length]? = (st[n]?).map (mvO B.length) := by
  unfold mvH
  rw [List.getElem?_append_right (by omega), List.getElem?_map]
  congr 2
  omega
theorem mvH_set (st : Hs) (n : Nat) (o : O) : (mvH B st).set (n + B.length) (mvO B.length o) = mvH B (st.set n o) := by
  unfold mvH
  rw [List.set_append_right _ _ (by omega), List.map_set]
  congr 2
  omega
theorem mvH_add (st : Hs) (o : O) : mvH B st ++ [mvO B.length o] = mvH B (st ++ [o]) := by
  unfold mvH
  rw [List.map_append, List.append_assoc]
  rfl
theorem bind_mv {α β : Type} {f : α → α} {g : β → β} {r : Res α} {k k' : α → Hs → Res β} (h : ∀ a st, k' (f a) (mvH B st) = mvX B g (k a st)) : (mvX B f r).bind k' = mvX B g (r.bind k) := by
  cases r with
  | ok a st => exact h a st
  | exc c st => rfl
  | stuck => rfl
theorem sr_mv {α : Type} {f : α → α} {r : Res α} {k k' : α → Hs → SR} (h : ∀ a st, k' (f a) (mvH B st) = mvS B (k a st)) : (mvX B f r).sr k' = mvS B (r.sr k) := by
  cases r with
  | ok a st => exact h a st
  | exc c st => rfl
  | stuck => rfl
theorem ok1_mv {α : Type} {f : α → α} {st : Hs} {o : Option α} : ok1 (mvH B st) (o.map f) = mvX B f (ok1 st o) := by cases o <;> rfl
theorem dr_mv (st : Hs) (d : D) : dr (mvH B st) (mv B.length d) = mv B.length (dr st d) := by
  cases d with
  | ref n =>
    simp only [mv, dr, mvH_get]
    cases h : st[n]? with
    | none => simp [mv]
    | some o =>
      cases o with
      | lst ds => simp [mvO, mv, mvs_map]
      | ins c fs => simp [mvO, mv]
  | _ => simp [mv, dr]
/-! ### equality, order -/
mutual
theorem eqD_mv (k : Nat) : ∀ a b : D, eqD (mv k a) (mv k b) = eqD a b
  | .non, b => by cases b <;> simp [mv, eqD]
  | .bl x, b => by cases b <;> simp [mv, eqD]
  | .int i, b => by cases b <;> simp [mv, eqD]
  | .str x, b => by cases b <;> simp [mv, eqD]
  | .tup xs, b => by cases b <;> simp [mv, eqD, eqDs_mv k xs]
  | .lst xs, b => by cases b <;> simp [mv, eqD, eqDs_mv k xs]
  | .kl xs, b => by cases b <;> simp [mv, eqD, eqDs_mv k xs]
  | .ref n, b => by simp [mv, eqD]
  | .exc n, b => by simp [mv, eqD]
theorem eqDs_mv (k : Nat) : ∀ a b : List D, eqDs (mvs k a) (mvs k b) = eqDs a b
  | [], b => by cases b <;> simp [mvs, eqDs]
  | x :: xs, b => by cases b <;> simp [mvs, eqDs, eqD_mv k x, eqDs_mv k xs]
end
mutual
theorem shD_mv (k : Nat) : ∀ (n : Nat) (a : D), shD n (mv k a) = shD n a
  | n, .non => by cases n <;> simp [mv, shD]
  | n, .bl x => by cases n <;> simp [mv, shD]
  | n, .int i => by cases n <;> simp [mv, shD]
  | n, .str x => by cases n <;> simp [mv, shD]
  | 0, .tup xs => by simp [mv, shD]
  | n + 1, .tup xs => by simp [mv, shD, shDs_mv k n xs]
  | 0, .lst xs => by simp [mv, shD]
  | n + 1, .lst xs => by simp [mv, shD, shDs_mv k n xs]
  | 0, .kl xs => by simp [mv, shD]
  | n + 1, .kl xs => by simp [mv, shD, shDs_mv k n xs]
  | n, .ref m => by cases n <;> simp [mv, shD]
  | n, .exc m => by cases n <;> simp [mv, shD]
theorem shDs_mv (k : Nat) : ∀ (n : Nat) (a : List D), shDs n (mvs k a) = shDs n a
  | n, [] => by simp [mvs, shDs]
  | n, x :: xs => by simp [mvs, shDs, shD_mv k n x, shDs_mv k n xs]
end
mutual
theorem cmpD_mv (k : Nat) : ∀ a b : D, cmpD (mv k a) (mv k b) = cmpD a b
  | .non, b => by cases b <;> simp [mv, cmpD]
  | .bl x, b => by cases b <;> simp [mv, cmpD]
  | .int i, b => by cases b <;> simp [mv, cmpD]
  | .str x, b => by cases b <;> simp [mv, cmpD]
  | .tup xs, b => by cases b <;> simp [mv, cmpD, cmpDs_mv k xs]
  | .lst xs, b => by cases b <;> simp [mv, cmpD]
  | .kl xs, b => by cases b <;> simp [mv, cmpD]
  | .ref n, b => by cases b <;> simp [mv, cmpD]
  | .exc n, b => by cases b <;> simp [mv, cmpD]
theorem cmpDs_mv (k : Nat) : ∀ a b : List D, cmpDs (mvs k a) (mvs k b) = cmpDs a b
  | [], b => by cases b <;> simp [mvs, cmpDs]
  | x :: xs, b => by
    cases b with
    | nil => simp [mvs, cmpDs]
    | cons y ys => simp [mvs, cmpDs, cmpD_mv k x, cmpDs_mv k xs]
end
mutual
theorem lvl_mv (k : Nat) : ∀ (n : Nat) (a : D), lvl n (mv k a) = lvl n a
  | 0, d => by cases d <;> simp [mv, lvl]
  | n + 1, .tup xs => by simp [mv, lvl, lvls_mv k n xs]
  | n + 1, .non => by simp [mv, lvl]
  | n + 1, .bl _ => by simp [mv, lvl]
  | n + 1, .int _ => by simp [mv, lvl]
  | n + 1, .str _ => by simp [mv, lvl]
  | n + 1, .lst _ => by simp [mv, lvl]
  | n + 1, .kl _ => by simp [mv, lvl]
  | n + 1, .ref _ => by simp [mv, lvl]
  | n + 1, .exc _ => by simp [mv, lvl]
theorem lvls_mv (k : Nat) : ∀ (n : Nat) (a : List D), lvls n (mvs k a) = lvls n a
  | n, [] => by simp [mvs, lvls]
  | n, x :: xs => by simp [mvs, lvls, lvl_mv k n x, lvls_mv k n xs]
end
theorem ltD_mv (k : Nat) (a b : D) : ltD (mv k a) (mv k b) = ltD a b := by unfold ltD; rw [cmpD_mv]
theorem insF_mv (k : Nat) (x : D) : ∀ ds : List D, sortD.insF (mv k x) (ds.map (mv k)) = (sortD.insF x ds).map (mv k)
  | [] => by simp [sortD.insF]
  | y :: ys => by
    simp only [List.map_cons, sortD.insF, ltD_mv]
    split
    · rw [List.map_cons, insF_mv k x ys]
    · simp
theorem sortD_mv (k : Nat) : ∀ ds : List D, sortD (ds.map (mv k)) = (sortD ds).map (mv k)
  | [] => by simp [sortD]
  | x :: xs => by simp only [List.map_cons, sortD, sortD_mv k xs, insF_mv]
theorem any_mv (k : Nat) (d : D) (ds : List D) : (ds.map (mv k)).any (eqD (mv k d)) = ds.any (eqD d) := by
  rw [List.any_map]
  congr 1
  funext x
  exact eqD_mv k d x
theorem any_mv2 (k : Nat) (d : D) (ds : List D) : (ds.map (mv k)).any (fun x => eqD x (mv k d)) = ds.any (fun x => eqD x d) := by
  rw [List.any_map]
  congr 1
  funext x
  exact eqD_mv k x d
theorem dedup_mv (k : Nat) : ∀ ds : List D, dedup (ds.map (mv k)) = (dedup ds).map (mv k)
  | [] => by simp [dedup]
  | x :: xs => by
    simp only [List.map_cons, dedup, any_mv]
    split
    · exact dedup_mv k xs
    · rw [List.map_cons, dedup_mv k xs]
theorem allInt_mv (k : Nat) : ∀ ds : List D, allInt (ds.map (mv k)) = allInt ds
  | [] => by simp [allInt]
  | d :: ds => by cases d <;> simp [allInt, mv, allInt_mv k ds]
theorem allBl_mv (k : Nat) : ∀ ds : List D, allBl (ds.map (mv k)) = allBl ds
  | [] => by simp [allBl]
  | d :: ds => by cases d <;> simp [allBl, mv, allBl_mv k ds]
theorem lenOk_mv (k : Nat) (ds : List D) : lenOk (ds.map (mv k)) = lenOk ds := by unfold lenOk; rw [List.length_map]
theorem cut_mv {α β : Type} (f : α → β) (xs : List α) (lo hi : Option Int) : cut (xs.map f) lo hi = (cut xs lo hi).map f := by
  unfold cut
  rw [List.length_map, List.map_take, List.map_drop]
theorem rept_mv {α β : Type} (f : α → β) (n : Nat) (xs : List α) : rept n (xs.map f) = (rept n xs).map f := by
  unfold rept
  rw [List.map_flatten, List.map_replicate]
/-! ### values -/
theorem seqOf_mv (st : Hs) (d : D) : seqOf (mvH B st) (mv B.length d) = (seqOf st d).map (List.map (mv B.length)) := by
  unfold seqOf
  rw [dr_mv]
  cases dr st d <;> simp [mv, mvs_map]
theorem items_mv (st : Hs) (d : D) : items (mvH B st) (mv B.length d) = (items st d).map (List.map (mv B.length)) := by
  unfold items
  rw [dr_mv]
  cases dr st d <;> simp [mv, mvs_map]
theorem binV_mv (k : Nat) (op : Op) (a b : D) : binV op (mv k a) (mv k b) = (binV op a b).map (mv k) := by
  cases op <;> cases a <;> cases b <;> simp only [mv, binV, Option.map_none, mvs_map, lenOk_mv, List.length_map, rept_mv, List.isEmpty_map] <;> (try split) <;> simp [mv, mvs_map]
theorem inV_mv (k : Nat) (a b : D) : cmpV.inV (mv k a) (mv k b) = cmpV.inV a b := by
  cases b with
  | lst ds =>
    simp only [mv, cmpV.inV, shD_mv, shDs_mv]
    rw [mvs_map, any_mv2]
  | tup ds =>
    simp only [mv, cmpV.inV, shD_mv, shDs_mv]
    rw [mvs_map, any_mv2]
  | str y => cases a <;> simp [mv, cmpV.inV]
  | _ => simp [mv, cmpV.inV]
theorem cmpV_mv (k : Nat) (op : Cm) (a b : D) : cmpV op (mv k a) (mv k b) = cmpV op a b := by
  cases op with
  | eq => simp only [cmpV, shD_mv, eqD_mv]
  | ne => simp only [cmpV, shD_mv, eqD_mv]
  | in_ => simp only [cmpV, inV_mv]
  | nin => simp only [cmpV, inV_mv]
  | lt => cases a <;> cases b <;> simp [mv, cmpV]
  | le => cases a <;> cases b <;> simp [mv, cmpV]
  | gt => cases a <;> cases b <;> simp [mv, cmpV]
  | ge => cases a <;> cases b <;> simp [mv, cmpV]
theorem ixK_mv (k : Nat) (x y : D) : ixK (mv k x) (mv k y) = (ixK x y).map (mv k) := by
  cases x with
  | kl ds =>
    cases y with
    | int i =>
      simp only [mv, ixK, mvs_map, List.length_map]
      cases ixNat ds.length i with
      | none => rfl
      | some j => exact List.getElem?_map ..
    | _ => simp [mv, ixK]
  | _ => simp [mv, ixK]
theorem ixV_mv (st : Hs) (x y : D) : ixV (mvH B st) (mv B.length x) (mv B.length y) = (ixV st x y).map (mv B.length) := by
  cases y with
  | int i =>
    simp only [mv, ixV, items_mv]
    cases items st x with
    | none => rfl
    | some ds =>
      simp only [Option.map_some, lenOk_mv, List.length_map]
      split
      · cases ixNat ds.length i with
        | none => rfl
        | some j => exact List.getElem?_map ..
      · rfl
  | _ => simp [mv, ixV]
theorem slV_mv (k : Nat) (d : D) (l h : Option Int) : slV (mv k d) l h = (slV d l h).map (mv k) := by
  cases d with
  | str x =>
    simp only [mv, slV]
    split <;> simp [mv]
  | tup ds => simp [mv, slV, mvs_map, cut_mv]
  | lst ds => simp [mv, slV, mvs_map, cut_mv]
  | _ => simp [mv, slV]
theorem idxV_mv (st : Hs) (x y : D) : idxV (mvH B st) (mv B.length x) (mv B.length y) = (idxV st x y).map (mv B.length) := by
  unfold idxV
  rw [dr_mv]
  cases dr st x with
  | lst ds =>
    simp only [mv, shD_mv, shDs_mv]
    simp only [mvs_map, lenOk_mv, List.findIdx?_map]
    have e : ((fun d => eqD d (mv B.length y)) ∘ mv B.length) = fun d => eqD d y := by
      funext d
      exact eqD_mv B.length d y
    rw [e]
    split
    · cases ds.findIdx? (fun d => eqD d y) <;> simp [mv]
    · rfl
  | _ => simp [mv]
theorem isiV_mv (t : Ty) (st : Hs) (d : D) : isiV t (mvH B st) (mv B.length d) = isiV t st d := by
  cases d with
  | ref n =>
    simp only [mv, isiV, mvH_get]
    cases st[n]? with
    | none => rfl
    | some o => cases o <;> rfl
  | _ => rfl
theorem insOf_mv (st : Hs) (d : D) : insOf (mvH B st) (mv B.length d) = insOf st d := by
  cases d with
  | ref n =>
    simp only [mv, insOf, mvH_get]
    cases st[n]? with
    | none => rfl
    | some o => cases o <;> rfl
  | _ => rfl
theorem eqOk_mv (c : Str) (st : Hs) (d : D) : eqOk c (mvH B st) (mv B.length d) = eqOk c st d := by
  have h := insOf_mv (B := B) st d
  cases d <;> simp only [mv] at h ⊢ <;> simp only [eqOk, h]
theorem isCV_mv (c : Str) (st : Hs) (d : D) : isCV c (mvH B st) (mv B.length d) = isCV c st d := by
  have h := insOf_mv (B := B) st d
  cases d <;> simp only [mv] at h ⊢ <;> simp only [isCV, h]
theorem lvls_mv' (k n : Nat) (ds : List D) : lvls n (ds.map (mv k)) = lvls n ds := by rw [← mvs_map, lvls_mv]
theorem noE_mv (k : Nat) (ds : List D) : (ds.map (mv k)).all (fun d => match d with | .tup [] => false | _ => true) = ds.all (fun d => match d with | .tup [] => false | _ => true) := by
  rw [List.all_map]
  congr 1
  funext d
  cases d with
  | tup xs => cases xs <;> simp [mv, mvs]
  | _ => simp [mv]
theorem shape_mv (k : Nat) (ds : List D) : sortShape (ds.map (mv k)) = sortShape ds := by
  cases ds with
  | nil => rfl
  | cons d ds =>
    have h := noE_mv k (d :: ds)
    cases d with
    | tup xs =>
      cases xs with
      | nil => simp [mv, mvs, sortShape]
      | cons x xs => exact h
    | _ => exact h
theorem iteM {α β : Type} {c c' : Prop} [Decidable c] [Decidable c'] (h : c ↔ c') (f : α → β) (a : α) : (if c then some (f a) else none) = Option.map f (if c' then some a else none) := by
  by_cases hc : c
  · rw [if_pos hc, if_pos (h.mp hc)]
    rfl
  · rw [if_neg hc, if_neg fun z => hc (h.mpr z)]
    rfl
theorem sortedV_mv (st : Hs) (d : D) : sortedV (mvH B st) (mv B.length d) = (sortedV st d).map (List.map (mv B.length)) := by
  unfold sortedV
  rw [seqOf_mv]
  cases seqOf st d with
  | none => rfl
  | some ds =>
    simp only [Option.map_some, lenOk_mv, sortable, lvls_mv', shape_mv, sortD_mv]
    exact iteM Iff.rfl _ _
theorem sortedSetV_mv (k : Nat) (d : D) : sortedSetV (mv k d) = (sortedSetV d).map (List.map (mv k)) := by
  cases d with
  | tup ds =>
    have h := noE_mv k ds
    have e : sortedSetV (.tup (ds.map (mv k))) = (if Nat.blt (ds.map (mv k)).length 60 && (lvls 0 (ds.map (mv k)) || (lvls 1 (ds.map (mv k)) && (ds.map (mv k)).all fun d => match d with | .tup [] => false | _ => true)) then some (sortD (dedup (ds.map (mv k)))) else none) := rfl
    rw [mv, mvs_map, e, h, List.length_map, lvls_mv', lvls_mv', dedup_mv, sortD_mv]
    exact iteM Iff.rfl _ _
  | _ => simp [mv, sortedSetV]
theorem catV_mv (k : Nat) (a b : D) : catV (mv k a) (mv k b) = (catV a b).map (List.map (mv k)) := by
  cases a <;> cases b <;> simp only [mv, catV, Option.map_none, mvs_map, lenOk_mv] <;> (try split) <;> simp
theorem repV_mv (k : Nat) (a b : D) : repV (mv k a) (mv k b) = (repV a b).map (List.map (mv k)) := by
  cases a <;> cases b <;> simp only [mv, repV, Option.map_none, mvs_map, lenOk_mv, rept_mv] <;> (try split) <;> simp
theorem lookup_mv (k : Nat) (f : Str) : ∀ fs : List (Str × D), (fs.map fun p => (p.1, mv k p.2)).lookup f = (fs.lookup f).map (mv k)
  | [] => rfl
  | (g, d) :: fs => by
    simp only [List.map_cons, List.lookup]
    split
    · rfl
    · exact lookup_mv k f fs
theorem putD_mv (k : Nat) (f : Str) (v : D) : ∀ fs : List (Str × D), putD f (mv k v) (fs.map fun p => (p.1, mv k p.2)) = (putD f v fs).map fun p => (p.1, mv k p.2)
  | [] => rfl
  | (g, d) :: fs => by
    simp only [List.map_cons, putD]
    split
    · rfl
    · rw [putD_mv k f v fs]
      rfl
theorem rngL_mv (k : Nat) : ∀ (n : Nat) (lo : Int), (rngL lo n).map (mv k) = rngL lo n
  | 0, _ => rfl
  | n + 1, lo => by simp only [rngL, List.map_cons, mv, rngL_mv k n]
theorem itemAt_mv (k : Nat) (en : Bool) (i : Nat) (d : D) : itemAt en i (mv k d) = mv k (itemAt en i d) := by
  cases en <;> simp [itemAt, mv, mvs]
theorem mvR_get (k : Nat) (ρ : Rho) (i : Nat) : (mvR k ρ)[i]? = (ρ[i]?).map (Option.map (mv k)) := List.getElem?_map ..
theorem setI_mv (k : Nat) (ρ : Rho) (i : Nat) (d : D) : setI (mvR k ρ) i (mv k d) = mvR k (setI ρ i d) := by
  unfold setI mvR
  rw [List.map_set]
  rfl
theorem wipeR_mv (k : Nat) (ρ : Rho) : ∀ own : List Nat, wipeR (mvR k ρ) own = mvR k (wipeR ρ own)
  | [] => rfl
  | v :: vs => by
    simp only [wipeR, wipeR_mv k ρ vs]
    unfold mvR
    rw [List.map_set]
    rfl
/-! ### walks -/
theorem compS_mv {en : Bool} {b b' : D → Hs → Res (Option D)} (h : ∀ d st, b' (mv B.length d) (mvH B st) = mvX B (Option.map (mv B.length)) (b d st)) : ∀ (ds : List D) (i : Nat) (acc : List D) (st : Hs), compS en b' (ds.map (mv B.length)) i (acc.map (mv B.length)) (mvH B st) = mvX B (List.map (mv B.length)) (compS en b ds i acc st)
  | [], i, acc, st => by simp only [List.map_nil, compS, mvX, List.map_reverse]
  | d :: ds, i, acc, st => by
    simp only [List.map_cons, compS, itemAt_mv, h]
    cases b (itemAt en i d) st with
    | ok x st' =>
      cases x with
      | none => exact compS_mv h ds (i + 1) acc st'
      | some x => exact compS_mv h ds (i + 1) (x :: acc) st'
    | exc c st' => rfl
    | stuck => rfl
theorem compD_mv {en : Bool} {b b' : D → Hs → Res (Option D)} (h : ∀ d st, b' (mv B.length d) (mvH B st) = mvX B (Option.map (mv B.length)) (b d st)) (n : Nat) : ∀ (f i : Nat) (acc : List D) (st : Hs), compD en b' (n + B.length) f i (acc.map (mv B.length)) (mvH B st) = mvX B (List.map (mv B.length)) (compD en b n f i acc st)
  | 0, i, acc, st => rfl
  | f + 1, i, acc, st => by
    simp only [compD, mvH_get]
    cases st[n]? with
    | none => rfl
    | some o =>
      cases o with
      | ins c fs => rfl
      | lst ds =>
        simp only [Option.map_some, mvO, List.getElem?_map]
        cases ds[i]? with
        | none => simp only [Option.map_none, mvX, List.map_reverse]
        | some d =>
          simp only [Option.map_some, itemAt_mv, h]
          cases b (itemAt en i d) st with
          | ok x st' =>
            cases x with
            | none => exact compD_mv h n f (i + 1) acc st'
            | some x => exact compD_mv h n f (i + 1) (x :: acc) st'
          | exc c st' => rfl
          | stuck => rfl
theorem forS_mv {en : Bool} {b b' : D → Rho → Hs → SR} (h : ∀ d ρ st, b' (mv B.length d) (mvR B.length ρ) (mvH B st) = mvS B (b d ρ st)) : ∀ (ds : List D) (i : Nat) (ρ : Rho) (st : Hs), forS en b' (ds.map (mv B.length)) i (mvR B.length ρ) (mvH B st) = mvS B (forS en b ds i ρ st)
  | [], i, ρ, st => rfl
  | d :: ds, i, ρ, st => by
    simp only [List.map_cons, forS, itemAt_mv, h]
    cases b (itemAt en i d) ρ st with
    | next ρ' st' => exact forS_mv h ds (i + 1) ρ' st'
    | _ => rfl
theorem forD_mv {en : Bool} {b b' : D → Rho → Hs → SR} (h : ∀ d ρ st, b' (mv B.length d) (mvR B.length ρ) (mvH B st) = mvS B (b d ρ st)) (n : Nat) : ∀ (f i : Nat) (ρ : Rho) (st : Hs), forD en b' (n + B.length) f i (mvR B.length ρ) (mvH B st) = mvS B (forD en b n f i ρ st)
  | 0, i, ρ, st => rfl
  | f + 1, i, ρ, st => by
    simp only [forD, mvH_get]
    cases st[n]? with
    | none => rfl
    | some o =>
      cases o with
      | ins c fs => rfl
      | lst ds =>
        simp only [Option.map_some, mvO, List.getElem?_map]
        cases ds[i]? with
        | none => rfl
        | some d =>
          simp only [Option.map_some, itemAt_mv, h]
          cases b (itemAt en i d) ρ st with
          | next ρ' st' => exact forD_mv h n f (i + 1) ρ' st'
          | _ => rfl
theorem whileN_mv {c c' : Rho → Hs → Res D} {b b' : Rho → Hs → SR} (hc : ∀ ρ st, c' (mvR B.length ρ) (mvH B st) = mvX B (mv B.length) (c ρ st)) (h : ∀ ρ st, b' (mvR B.length ρ) (mvH B st) = mvS B (b ρ st)) : ∀ (f : Nat) (ρ : Rho) (st : Hs), whileN c' b' f (mvR B.length ρ) (mvH B st) = mvS B (whileN c b f ρ st)
  | 0, ρ, st => rfl
  | f + 1, ρ, st => by
    simp only [whileN, hc]
    cases c ρ st with
    | ok x st' =>
      cases x with
      | bl k =>
        cases k with
        | true =>
          simp only [mvX, mv, h]
          cases b ρ st' with
          | next ρ' st'' => exact whileN_mv hc h f ρ' st''
          | _ => rfl
        | false => rfl
      | _ => rfl
    | exc c st' => rfl
    | stuck => rfl
end
end Rf

/-! Rf: a run does not hang on the cells that stood before: expressions. -/
namespace Rf
open PySem
def mvSrc (k : Nat) : Src → Src
  | .st en ds => .st en (ds.map (mv k))
  | .dyn en n => .dyn en (n + k)
section
variable {B : Hs} {C : Calls} {F : Nat}
theorem bltV_mv (f : Bf) (ds : List D) (st : Hs) : bltV f (ds.map (mv B.length)) (mvH B st) = (bltV f ds st).map (mv B.length) := by
  rcases ds with _ | ⟨x, _ | ⟨y, _ | ⟨z, zs⟩⟩⟩
  · cases f <;> rfl
  · have h1 := seqOf_mv (B := B) st x
    have h2 := dr_mv (B := B) st x
    cases f with
    | abs => cases x <;> rfl
    | int => cases x <;> rfl
    | str =>
      cases x with
      | int i =>
        simp only [List.map_cons, List.map_nil, bltV, mv]
        split <;> rfl
      | _ => rfl
    | max2 => cases x <;> rfl
    | min2 => cases x <;> rfl
    | all =>
      simp only [List.map_cons, List.map_nil, bltV, h2]
      cases dr st x with
      | lst xs =>
        simp only [mv, mvs_map, allBl_mv]
        cases allBl xs <;> rfl
      | _ => rfl
    | any =>
      simp only [List.map_cons, List.map_nil, bltV, h2]
      cases dr st x with
      | lst xs =>
        simp only [mv, mvs_map, allBl_mv]
        cases allBl xs <;> rfl
      | _ => rfl
    | len =>
      simp only [List.map_cons, List.map_nil, bltV, h2]
      cases dr st x with
      | lst xs => simp only [mv, mvs_map, List.length_map, Option.map_some]
      | tup xs => simp only [mv, mvs_map, List.length_map, Option.map_some]
      | kl xs => simp only [mv, mvs_map, List.length_map, Option.map_some]
      | str z =>
        simp only [mv]
        split <;> rfl
      | _ => rfl
    | max =>
      simp only [List.map_cons, List.map_nil, bltV, h1]
      cases seqOf st x with
      | none => rfl
      | some xs =>
        simp only [Option.map_some, Option.bind_some, allInt_mv]
        cases allInt xs with
        | none => rfl
        | some ns =>
          simp only [Option.bind_some]
          cases maxI ns <;> rfl
    | min =>
      simp only [List.map_cons, List.map_nil, bltV, h1]
      cases seqOf st x with
      | none => rfl
      | some xs =>
        simp only [Option.map_some, Option.bind_some, allInt_mv]
        cases allInt xs with
        | none => rfl
        | some ns =>
          simp only [Option.bind_some]
          cases minI ns <;> rfl
    | sum =>
      simp only [List.map_cons, List.map_nil, bltV, h1]
      cases seqOf st x with
      | none => rfl
      | some xs =>
        simp only [Option.map_some, Option.bind_some, allInt_mv]
        cases allInt xs <;> rfl
    | tuple =>
      simp only [List.map_cons, List.map_nil, bltV, h1]
      cases seqOf st x with
      | none => rfl
      | some xs => simp only [Option.map_some, mv, mvs_map]
  · cases f <;> cases x <;> cases y <;> rfl
  · cases f <;> cases x <;> cases y <;> rfl
theorem rng2V_mv (x y : D) (st : Hs) : rng2V (mv B.length x) (mv B.length y) (mvH B st) = mvX B (mvSrc B.length) (rng2V x y st) := by
  cases x <;> cases y <;> simp only [mv, rng2V, mvX]
  split <;> simp [mvX, mvSrc, rngL_mv]
variable (hC : ∀ (i : Nat) (ds : List D) (st : Hs), C i (ds.map (mv B.length)) (mvH B st) = mvX B (mv B.length) (C i ds st))
include hC
mutual
theorem evE_mv : ∀ (e : E) (ρ : Rho) (st : Hs), evE C F e (mvR B.length ρ) (mvH B st) = mvX B (mv B.length) (evE C F e ρ st)
  | .k c, ρ, st => by cases c <;> rfl
  | .v i, ρ, st => by
    simp only [evE, mvR_get]
    cases ρ[i]? with
    | none => rfl
    | some o => cases o <;> rfl
  | .gi x i, ρ, st => rfl
  | .gt x ts, ρ, st => by
    simp only [evE, mvX, mv, mvs_map, List.map_map]
    rfl
  | .tup es, ρ, st => by
    simp only [evE]
    rw [evEs_mv es]
    exact bind_mv fun ds st => by simp only [mvX, mv, mvs_map]
  | .ofL l, ρ, st => by
    simp only [evE]
    rw [evL_mv l]
    exact bind_mv fun ds st => by simp only [mvX, mv, mvs_map]
  | .alloc l, ρ, st => by
    simp only [evE]
    rw [evL_mv l]
    exact bind_mv fun ds st => by
      simp only [mvX, mv, mvH_len]
      rw [← mvH_add]
      rfl
  | .bin op a b, ρ, st => by
    simp only [evE]
    rw [evE_mv a]
    refine bind_mv fun x st => ?_
    rw [evE_mv b]
    refine bind_mv fun y st => ?_
    rw [dr_mv, dr_mv, binV_mv, ok1_mv]
  | .neg a, ρ, st => by
    simp only [evE]
    rw [evE_mv a]
    exact bind_mv fun x st => by cases x <;> rfl
  | .not a, ρ, st => by
    simp only [evE]
    rw [evE_mv a]
    exact bind_mv fun x st => by cases x <;> rfl
  | .cmp op a b, ρ, st => by
    simp only [evE]
    rw [evE_mv a]
    refine bind_mv fun x st => ?_
    rw [evE_mv b]
    refine bind_mv fun y st => ?_
    rw [dr_mv, dr_mv, cmpV_mv]
    cases cmpV op (dr st x) (dr st y) <;> rfl
  | .chain o1 o2 a b c, ρ, st => by
    simp only [evE]
    rw [evE_mv a]
    refine bind_mv fun x st => ?_
    rw [evE_mv b]
    refine bind_mv fun y st => ?_
    rw [dr_mv, dr_mv, cmpV_mv]
    cases cmpV o1 (dr st x) (dr st y) with
    | none => rfl
    | some k =>
      cases k with
      | false => rfl
      | true =>
        dsimp only
        rw [evE_mv c]
        refine bind_mv fun z st => ?_
        rw [dr_mv, dr_mv, cmpV_mv]
        cases cmpV o2 (dr st y) (dr st z) <;> rfl
  | .isN a, ρ, st => by
    simp only [evE]
    rw [evE_mv a]
    exact bind_mv fun x st => by cases x <;> rfl
  | .notN a, ρ, st => by
    simp only [evE]
    rw [evE_mv a]
    exact bind_mv fun x st => by cases x <;> rfl
  | .bop conj es, ρ, st => by
    simp only [evE]
    exact evB_mv conj es ρ st
  | .ife c a b, ρ, st => by
    simp only [evE]
    rw [evE_mv c]
    refine bind_mv fun x st => ?_
    cases x with
    | bl k =>
      cases k with
      | true => exact evE_mv a ρ st
      | false => exact evE_mv b ρ st
    | _ => rfl
  | .ix a b, ρ, st => by
    simp only [evE]
    rw [evE_mv a]
    refine bind_mv fun x st => ?_
    rw [evE_mv b]
    refine bind_mv fun y st => ?_
    rw [ixK_mv, ixV_mv]
    cases ixK x y with
    | none => exact ok1_mv
    | some d => rfl
  | .sl a lo hi, ρ, st => by
    simp only [evE]
    rw [evE_mv a]
    refine bind_mv fun x st => ?_
    rw [evO_mv lo]
    refine bind_mv fun l st => ?_
    rw [evO_mv hi]
    refine bind_mv fun h st => ?_
    rw [dr_mv, slV_mv, ok1_mv]
    rfl
  | .rev a, ρ, st => by
    simp only [evE]
    rw [evE_mv a]
    refine bind_mv fun x st => ?_
    rw [dr_mv]
    cases dr st x with
    | tup ds => simp only [mv, mvX, mvs_map, List.map_reverse]
    | _ => rfl
  | .blt f es, ρ, st => by
    simp only [evE]
    rw [evEs_mv es]
    exact bind_mv fun ds st => by rw [bltV_mv, ok1_mv]
  | .isi a t, ρ, st => by
    simp only [evE]
    rw [evE_mv a]
    refine bind_mv fun x st => ?_
    rw [isiV_mv]
    cases isiV t st x <;> rfl
  | .idx a b, ρ, st => by
    simp only [evE]
    rw [evE_mv a]
    refine bind_mv fun x st => ?_
    rw [dr_mv]
    cases dr st x with
    | lst ds =>
      simp only [mv]
      rw [evE_mv b]
      exact bind_mv fun y st => by rw [idxV_mv, ok1_mv]
    | _ => rfl
  | .call f es, ρ, st => by
    simp only [evE]
    rw [evEs_mv es]
    exact bind_mv fun ds st => hC f ds st
  | .make c f es, ρ, st => by
    simp only [evE]
    rw [evEs_mv es]
    refine bind_mv fun ds st => ?_
    have e := hC f (.ref st.length :: ds) (st ++ [.ins c []])
    rw [← mvH_add] at e
    rw [mvH_len]
    refine (congrArg (Res.bind · _) e).trans (bind_mv fun r st' => ?_)
    cases r <;> rfl
  | .meth c m f o es, ρ, st => by
    simp only [evE]
    rw [evE_mv o]
    refine bind_mv fun x st => ?_
    cases x with
    | ref n =>
      simp only [mv, mvH_get]
      cases st[n]? with
      | none => rfl
      | some q =>
        cases q with
        | lst ds => rfl
        | ins c' fs =>
          simp only [Option.map_some, mvO, lookup_mv, Option.isNone_map]
          split
          · rw [evEs_mv es]
            exact bind_mv fun ds st => hC f (.ref n :: ds) st
          · rfl
    | _ => rfl
  | .fld c o f, ρ, st => by
    simp only [evE]
    rw [evE_mv o]
    refine bind_mv fun x st => ?_
    cases x with
    | ref n =>
      simp only [mv, mvH_get]
      cases st[n]? with
      | none => rfl
      | some q =>
        cases q with
        | lst ds => rfl
        | ins c' fs =>
          simp only [Option.map_some, mvO, lookup_mv]
          split
          · exact ok1_mv
          · rfl
    | _ => rfl
  | .told e, ρ, st => by
    simp only [evE]
    rw [evE_mv e]
    cases evE C F e ρ st with
    | ok d st => rfl
    | exc c st =>
      simp only [mvX]
      split <;> rfl
    | stuck => rfl
  | .gd x kvs e, ρ, st => by
    simp only [evE]
    rw [evE_mv e]
    refine bind_mv fun x st => ?_
    cases x with
    | int i =>
      simp only [mv]
      cases kvs.lookup i <;> rfl
    | _ => rfl
  | .rngT e, ρ, st => by
    simp only [evE]
    rw [evE_mv e]
    refine bind_mv fun x st => ?_
    cases x with
    | int i =>
      simp only [mv]
      split
      · simp only [mvX, mv, mvs_map, rngL_mv]
      · rfl
    | _ => rfl
  | .lenO c f o, ρ, st => by
    simp only [evE]
    rw [evE_mv o]
    refine bind_mv fun x st => ?_
    rw [insOf_mv]
    split
    · refine (congrArg (Res.bind · _) (hC f [x] st)).trans (bind_mv fun r st' => ?_)
      cases r with
      | int i =>
        simp only [mv]
        split <;> rfl
      | _ => rfl
    · rfl
  | .eqO c f a b, ρ, st => by
    simp only [evE]
    rw [evE_mv a]
    refine bind_mv fun x st => ?_
    rw [evE_mv b]
    refine bind_mv fun y st => ?_
    rw [insOf_mv, eqOk_mv]
    split
    · refine (congrArg (Res.bind · _) (hC f [x, y] st)).trans (bind_mv fun r st' => ?_)
      cases r <;> rfl
    · rfl
  | .isC c a, ρ, st => by
    simp only [evE]
    rw [evE_mv a]
    refine bind_mv fun x st => ?_
    rw [isCV_mv]
    cases isCV c st x <;> rfl
termination_by structural x => x
theorem evEs_mv : ∀ (es : Es) (ρ : Rho) (st : Hs), evEs C F es (mvR B.length ρ) (mvH B st) = mvX B (List.map (mv B.length)) (evEs C F es ρ st)
  | .nil, ρ, st => rfl
  | .cons e es, ρ, st => by
    simp only [evEs]
    rw [evE_mv e]
    refine bind_mv fun x st => ?_
    rw [evEs_mv es]
    exact bind_mv fun xs st => rfl
termination_by structural x => x
theorem evB_mv (conj : Bool) : ∀ (es : Es) (ρ : Rho) (st : Hs), evB C F conj es (mvR B.length ρ) (mvH B st) = mvX B (mv B.length) (evB C F conj es ρ st)
  | .nil, ρ, st => rfl
  | .cons e es, ρ, st => by
    simp only [evB]
    rw [evE_mv e]
    refine bind_mv fun x st => ?_
    cases x with
    | bl b =>
      cases es with
      | nil => rfl
      | cons e' es' =>
        simp only [mv]
        split
        · exact evB_mv conj (.cons e' es') ρ st
        · rfl
    | _ => rfl
termination_by structural x => x
theorem evO_mv : ∀ (o : Oe) (ρ : Rho) (st : Hs), evO C F o (mvR B.length ρ) (mvH B st) = mvX B id (evO C F o ρ st)
  | .none, ρ, st => rfl
  | .some e, ρ, st => by
    simp only [evO]
    rw [evE_mv e]
    exact bind_mv fun x st => by cases x <;> rfl
termination_by structural x => x
theorem evL_mv : ∀ (l : L) (ρ : Rho) (st : Hs), evL C F l (mvR B.length ρ) (mvH B st) = mvX B (List.map (mv B.length)) (evL C F l ρ st)
  | .disp es, ρ, st => by
    simp only [evL]
    rw [evEs_mv es]
    refine bind_mv fun ds st => ?_
    rw [lenOk_mv]
    split <;> rfl
  | .comp own t it c e, ρ, st => by
    simp only [evL]
    rw [evIt_mv it]
    refine bind_mv fun src st => ?_
    have hb : ∀ (d : D) (st : Hs), ((evTg C F t (mv B.length d) (wipeR (mvR B.length ρ) own) (mvH B st)).bind fun ρ' st => (evC C F c ρ' st).bind fun k st => if k then (evE C F e ρ' st).bind fun x st => .ok (some x) st else .ok none st)
        = mvX B (Option.map (mv B.length)) ((evTg C F t d (wipeR ρ own) st).bind fun ρ' st => (evC C F c ρ' st).bind fun k st => if k then (evE C F e ρ' st).bind fun x st => .ok (some x) st else .ok none st) := fun d st => by
      rw [wipeR_mv, evTg_mv t]
      refine bind_mv fun ρ' st => ?_
      rw [evC_mv c]
      refine bind_mv fun k st => ?_
      cases k with
      | false => rfl
      | true =>
        simp only [id_eq, if_true]
        rw [evE_mv e]
        exact bind_mv fun x st => rfl
    cases src with
    | st en ds =>
      simp only [mvSrc, lenOk_mv]
      split
      · exact compS_mv hb ds 0 [] st
      · rfl
    | dyn en n => exact compD_mv hb n (min F bigN) 0 [] st
  | .cat a b, ρ, st => by
    simp only [evL]
    rw [evE_mv a]
    refine bind_mv fun x st => ?_
    rw [evE_mv b]
    refine bind_mv fun y st => ?_
    rw [dr_mv, dr_mv, catV_mv, ok1_mv]
  | .rep a b, ρ, st => by
    simp only [evL]
    rw [evE_mv a]
    refine bind_mv fun x st => ?_
    rw [evE_mv b]
    refine bind_mv fun y st => ?_
    rw [dr_mv, repV_mv, ok1_mv]
  | .listOf a, ρ, st => by
    simp only [evL]
    rw [evE_mv a]
    exact bind_mv fun x st => by rw [seqOf_mv, ok1_mv]
  | .sorted a, ρ, st => by
    simp only [evL]
    rw [evE_mv a]
    exact bind_mv fun x st => by rw [sortedV_mv, ok1_mv]
  | .sortedSet a, ρ, st => by
    simp only [evL]
    rw [evE_mv a]
    exact bind_mv fun x st => by rw [dr_mv, sortedSetV_mv, ok1_mv]
  | .rng a, ρ, st => by
    simp only [evL]
    rw [evE_mv a]
    refine bind_mv fun x st => ?_
    cases x with
    | int i =>
      simp only [mv]
      split
      · simp only [mvX, rngL_mv]
      · rfl
    | _ => rfl
termination_by structural x => x
theorem evC_mv : ∀ (o : Oe) (ρ : Rho) (st : Hs), evC C F o (mvR B.length ρ) (mvH B st) = mvX B id (evC C F o ρ st)
  | .none, ρ, st => rfl
  | .some e, ρ, st => by
    simp only [evC]
    rw [evE_mv e]
    exact bind_mv fun x st => by cases x <;> rfl
termination_by structural x => x
theorem evIt_mv : ∀ (i : It) (ρ : Rho) (st : Hs), evIt C F i (mvR B.length ρ) (mvH B st) = mvX B (mvSrc B.length) (evIt C F i ρ st)
  | .seq a, ρ, st => by
    simp only [evIt]
    rw [evE_mv a]
    refine bind_mv fun x st => ?_
    have hi := items_mv (B := B) st x
    cases x with
    | ref n =>
      simp only [mv, mvH_get]
      cases st[n]? with
      | none => rfl
      | some o => cases o <;> rfl
    | _ =>
      simp only [mv] at hi ⊢
      rw [hi]
      cases items st _ <;> rfl
  | .enum a, ρ, st => by
    simp only [evIt]
    rw [evE_mv a]
    refine bind_mv fun x st => ?_
    have hi := seqOf_mv (B := B) st x
    cases x with
    | ref n =>
      simp only [mv, mvH_get]
      cases st[n]? with
      | none => rfl
      | some o => cases o <;> rfl
    | _ =>
      simp only [mv] at hi ⊢
      rw [hi]
      cases seqOf st _ <;> rfl
  | .rng1 a, ρ, st => by
    simp only [evIt]
    rw [evE_mv a]
    refine bind_mv fun x st => ?_
    cases x with
    | int i =>
      simp only [mv]
      split
      · simp only [mvX, mvSrc, rngL_mv]
      · rfl
    | _ => rfl
  | .rng2 a b, ρ, st => by
    simp only [evIt]
    rw [evE_mv a]
    refine bind_mv fun x st => ?_
    rw [evE_mv b]
    exact bind_mv fun y st => rng2V_mv x y st
termination_by structural x => x
theorem evTg_mv : ∀ (t : Tg) (d : D) (ρ : Rho) (st : Hs), evTg C F t (mv B.length d) (mvR B.length ρ) (mvH B st) = mvX B (mvR B.length) (evTg C F t d ρ st)
  | .name i, d, ρ, st => by simp only [evTg, setI_mv, mvX]
  | .tup ts, d, ρ, st => by
    simp only [evTg]
    cases d with
    | tup ds =>
      simp only [mv, mvs_map, List.length_map]
      split
      · exact evTgs_mv ts ds ρ st
      · rfl
    | _ => rfl
  | .sub o i, d, ρ, st => by
    simp only [evTg]
    rw [evE_mv o]
    refine bind_mv fun x st => ?_
    rw [evE_mv i]
    refine bind_mv fun y st => ?_
    cases x with
    | ref n =>
      cases y with
      | int k =>
        simp only [mv, mvH_get]
        cases st[n]? with
        | none => rfl
        | some q =>
          cases q with
          | ins c fs => rfl
          | lst ds =>
            simp only [Option.map_some, mvO, List.length_map]
            cases ixNat ds.length k with
            | none => rfl
            | some j =>
              simp only [mvX]
              rw [← mvH_set]
              simp only [mvO, List.map_set]
      | _ => rfl
    | _ => cases y <;> rfl
termination_by structural x => x
theorem evTgs_mv : ∀ (ts : Tgs) (ds : List D) (ρ : Rho) (st : Hs), evTgs C F ts (ds.map (mv B.length)) (mvR B.length ρ) (mvH B st) = mvX B (mvR B.length) (evTgs C F ts ds ρ st)
  | .nil, ds, ρ, st => by cases ds <;> rfl
  | .cons t ts, ds, ρ, st => by
    cases ds with
    | nil => rfl
    | cons d ds =>
      simp only [evTgs, List.map_cons]
      rw [evTg_mv t]
      exact bind_mv fun ρ st => evTgs_mv ts ds ρ st
termination_by structural x => x
end
end
end Rf

/-! Rf: a run does not hang on the cells that stood before: statements, defs. -/
namespace Rf
open PySem
section
variable {B : Hs} {C : Calls} {F : Nat}
section
variable (hC : ∀ (i : Nat) (ds : List D) (st : Hs), C i (ds.map (mv B.length)) (mvH B st) = mvX B (mv B.length) (C i ds st))
include hC
mutual
theorem evS_mv : ∀ (s : S) (ρ : Rho) (st : Hs), evS C F s (mvR B.length ρ) (mvH B st) = mvS B (evS C F s ρ st)
  | .expr e, ρ, st => by
    simp only [evS]
    rw [evE_mv hC e]
    exact sr_mv fun d st => rfl
  | .ret e, ρ, st => by
    simp only [evS]
    rw [evE_mv hC e]
    exact sr_mv fun d st => rfl
  | .asg t e, ρ, st => by
    simp only [evS]
    rw [evE_mv hC e]
    refine sr_mv fun d st => ?_
    rw [evTg_mv hC t]
    exact sr_mv fun ρ st => rfl
  | .asgL i mu l, ρ, st => by
    simp only [evS]
    rw [evL_mv hC l]
    refine sr_mv fun ds st => ?_
    cases mu with
    | true =>
      simp only [if_true, mvS]
      rw [← mvH_add, ← setI_mv, mvH_len]
      simp only [mvO, mv]
    | false =>
      simp only [Bool.false_eq_true, if_false, mvS]
      rw [← setI_mv]
      simp only [mv, mvs_map]
  | .fld c o f e, ρ, st => by
    simp only [evS]
    rw [evE_mv hC e]
    refine sr_mv fun d st => ?_
    rw [evE_mv hC o]
    refine sr_mv fun x st => ?_
    cases x with
    | ref n =>
      simp only [mv, mvH_get]
      cases st[n]? with
      | none => rfl
      | some q =>
        cases q with
        | lst ds => rfl
        | ins c' fs =>
          simp only [Option.map_some, mvO, List.length_map]
          split
          · simp only [mvS]
            rw [← mvH_set]
            simp only [mvO, putD_mv]
          · rfl
    | _ => rfl
  | .ife c a b, ρ, st => by
    simp only [evS]
    rw [evE_mv hC c]
    refine sr_mv fun x st => ?_
    cases x with
    | bl k =>
      cases k with
      | true => exact evSs_mv a ρ st
      | false => exact evSs_mv b ρ st
    | _ => rfl
  | .for_ t it b, ρ, st => by
    simp only [evS]
    rw [evIt_mv hC it]
    refine sr_mv fun src st => ?_
    have hb : ∀ (d : D) (ρ : Rho) (st : Hs), ((evTg C F t (mv B.length d) (mvR B.length ρ) (mvH B st)).sr fun ρ st => evSs C F b ρ st) = mvS B ((evTg C F t d ρ st).sr fun ρ st => evSs C F b ρ st) := fun d ρ st => by
      rw [evTg_mv hC t]
      exact sr_mv fun ρ st => evSs_mv b ρ st
    cases src with
    | st en ds => exact forS_mv hb ds 0 ρ st
    | dyn en n => exact forD_mv hb n F 0 ρ st
  | .while_ c b, ρ, st => by
    simp only [evS]
    exact whileN_mv (evE_mv hC c) (evSs_mv b) F ρ st
  | .append o e, ρ, st => by
    simp only [evS]
    rw [evE_mv hC o]
    refine sr_mv fun x st => ?_
    cases x with
    | ref n =>
      simp only [mv, mvH_get]
      cases st[n]? with
      | none => rfl
      | some q =>
        cases q with
        | ins c fs => rfl
        | lst ds =>
          simp only [Option.map_some, mvO]
          rw [evE_mv hC e]
          refine sr_mv fun d st => ?_
          simp only [mvH_get]
          cases st[n]? with
          | none => rfl
          | some q =>
            cases q with
            | ins c fs => rfl
            | lst ds =>
              simp only [Option.map_some, mvO, lenOk_mv]
              split
              · simp only [mvS]
                rw [← mvH_set]
                simp only [mvO, List.map_append, List.map_cons, List.map_nil]
              · rfl
    | _ => rfl
  | .raise c, ρ, st => rfl
termination_by structural x => x
theorem evSs_mv : ∀ (s : Ss) (ρ : Rho) (st : Hs), evSs C F s (mvR B.length ρ) (mvH B st) = mvS B (evSs C F s ρ st)
  | .nil, ρ, st => rfl
  | .cons s ss, ρ, st => by
    simp only [evSs]
    rw [evS_mv s]
    cases evS C F s ρ st with
    | next ρ st => exact evSs_mv ss ρ st
    | _ => rfl
termination_by structural x => x
end
end
/-! ### the end of a call -/
mutual
theorem below_mv (k n : Nat) : ∀ d : D, below (n + k) (mv k d) = below n d
  | .tup ds => by simp only [mv, below, belows_mv k n ds]
  | .lst ds => by simp only [mv, below, belows_mv k n ds]
  | .kl ds => by simp only [mv, below, belows_mv k n ds]
  | .ref m => by
    simp only [mv, below]
    have : Nat.ble (m + k + 1) (n + k) = Nat.ble (m + 1) n := by
      rw [Bool.eq_iff_iff, Nat.ble_eq, Nat.ble_eq]
      omega
    exact this
  | .non => rfl
  | .bl _ => rfl
  | .int _ => rfl
  | .str _ => rfl
  | .exc _ => rfl
theorem belows_mv (k n : Nat) : ∀ ds : List D, belows (n + k) (mvs k ds) = belows n ds
  | [] => rfl
  | d :: ds => by simp only [mvs, belows, below_mv k n d, belows_mv k n ds]
end
theorem belowO_mv (k n : Nat) (o : O) : belowO (n + k) (mvO k o) = belowO n o := by
  cases o with
  | lst ds => simp only [mvO, belowO, ← mvs_map, belows_mv]
  | ins c fs =>
    simp only [mvO, belowO, List.all_map]
    congr 1
    funext p
    exact below_mv k n p.2
theorem optMap_mv (k : Nat) {g g' : D → Option D} (h : ∀ d, g' (mv k d) = (g d).map (mv k)) : ∀ ds : List D, optMap g' (ds.map (mv k)) = (optMap g ds).map (List.map (mv k))
  | [] => rfl
  | d :: ds => by
    simp only [List.map_cons, optMap, h, optMap_mv k h ds]
    cases g d with
    | none => rfl
    | some x => cases optMap g ds <;> rfl
theorem frz_mv (st : Hs) (n : Nat) : ∀ (j : Nat) (d : D), frz (mvH B st) (n + B.length) j (mv B.length d) = (frz st n j d).map (mv B.length)
  | 0, d => by
    simp only [frz, below_mv]
    split <;> rfl
  | j + 1, d => by
    have ih := optMap_mv B.length (frz_mv st n j)
    cases d with
    | tup ds =>
      simp only [mv, frz, mvs_map, ih]
      cases optMap (frz st n j) ds <;> simp [mv, mvs_map]
    | lst ds =>
      simp only [mv, frz, mvs_map, ih]
      cases optMap (frz st n j) ds <;> simp [mv, mvs_map]
    | kl ds =>
      simp only [mv, frz, belows_mv]
      split <;> simp [mv]
    | ref m =>
      simp only [mv, frz, mvH_get]
      have e : Nat.blt (m + B.length) (n + B.length) = Nat.blt m n := by
        rw [Bool.eq_iff_iff]
        show Nat.ble _ _ = true ↔ Nat.ble _ _ = true
        rw [Nat.ble_eq, Nat.ble_eq]
        omega
      rw [e]
      split
      · simp [mv]
      · cases st[m]? with
        | none => rfl
        | some o =>
          cases o with
          | ins c fs => rfl
          | lst ds =>
            simp only [Option.map_some, mvO, ih]
            cases optMap (frz st n j) ds <;> simp [mv, mvs_map]
    | _ => rfl
/-- no cell of B points out of B -/
def shut (B : Hs) : Bool := B.all (belowO B.length)
mutual
theorem below_le {m n : Nat} (h : m ≤ n) : ∀ d : D, below m d = true → below n d = true
  | .tup ds, q => by simp only [below] at q ⊢; exact belows_le h ds q
  | .lst ds, q => by simp only [below] at q ⊢; exact belows_le h ds q
  | .kl ds, q => by simp only [below] at q ⊢; exact belows_le h ds q
  | .ref k, q => by
    simp only [below] at q ⊢
    have q : Nat.ble (k + 1) m = true := q
    have := Nat.le_of_ble_eq_true q
    exact Nat.ble_eq_true_of_le (by omega)
  | .non, _ => rfl
  | .bl _, _ => rfl
  | .int _, _ => rfl
  | .str _, _ => rfl
  | .exc _, _ => rfl
theorem belows_le {m n : Nat} (h : m ≤ n) : ∀ ds : List D, belows m ds = true → belows n ds = true
  | [], _ => rfl
  | d :: ds, q => by
    simp only [belows, Bool.and_eq_true] at q ⊢
    exact ⟨below_le h d q.1, belows_le h ds q.2⟩
end
theorem belowO_le {m n : Nat} (h : m ≤ n) (o : O) (q : belowO m o = true) : belowO n o = true := by
  cases o with
  | lst ds => exact belows_le h ds q
  | ins c fs =>
    simp only [belowO, List.all_eq_true] at q ⊢
    exact fun p hp => below_le h p.2 (q p hp)
theorem take_mv (st : Hs) (n : Nat) : (mvH B st).take (n + B.length) = mvH B (st.take n) := by
  unfold mvH
  rw [List.take_append, List.take_of_length_le (by omega), List.map_take]
  congr 2
  omega
theorem shut_mv (hB : shut B = true) (st : Hs) (n : Nat) : (mvH B st).all (belowO (n + B.length)) = st.all (belowO n) := by
  unfold mvH
  rw [List.all_append, List.all_map]
  have h1 : B.all (belowO (n + B.length)) = true := by
    unfold shut at hB
    rw [List.all_eq_true] at hB ⊢
    exact fun o ho => belowO_le (by omega) o (hB o ho)
  rw [h1, Bool.true_and]
  congr 1
  funext o
  exact belowO_mv B.length n o
theorem ble_mv (st : Hs) (n : Nat) : Nat.ble (mvH B st).length (n + B.length) = Nat.ble st.length n := by
  rw [mvH_len, Bool.eq_iff_iff, Nat.ble_eq, Nat.ble_eq]
  omega
theorem fin_mv (hB : shut B = true) (cl : Bool) (n : Nat) (d : D) (st : Hs) : fin cl (n + B.length) (mv B.length d) (mvH B st) = mvX B (mv B.length) (fin cl n d st) := by
  unfold fin
  rw [ble_mv]
  split
  · rfl
  · cases cl with
    | false => rfl
    | true =>
      simp only [if_true, frz_mv]
      cases frz st n 12 d with
      | none => rfl
      | some d' =>
        simp only [Option.map_some, take_mv, shut_mv hB]
        split <;> rfl
theorem runFn_mv (hB : shut B = true) (hC : ∀ (i : Nat) (ds : List D) (st : Hs), C i (ds.map (mv B.length)) (mvH B st) = mvX B (mv B.length) (C i ds st)) (f : Fn) (ds : List D) (st : Hs) : runFn C F f (ds.map (mv B.length)) (mvH B st) = mvX B (mv B.length) (runFn C F f ds st) := by
  unfold runFn
  have e : startR f (ds.map (mv B.length)) = mvR B.length (startR f ds) := by
    unfold startR mvR
    rw [List.map_append, List.map_map, List.map_map, List.map_replicate, List.length_map]
    rfl
  rw [e, List.length_map, evSs_mv hC]
  split
  · cases evSs C F f.body (startR f ds) st with
    | next ρ st' => simp only [mvS, mvH_len]; exact fin_mv hB f.clean st.length .non st'
    | ret d st' => simp only [mvS, mvH_len]; exact fin_mv hB f.clean st.length d st'
    | exc c st' =>
      simp only [mvS]
      rw [mvH_len st, ble_mv, take_mv, shut_mv hB]
      split
      · rfl
      · split <;> rfl
    | stuck => rfl
  · rfl
theorem callN_mv (hB : shut B = true) (fs : List (Option Fn)) (F : Nat) : ∀ (n i : Nat) (ds : List D) (st : Hs), callN fs F n i (ds.map (mv B.length)) (mvH B st) = mvX B (mv B.length) (callN fs F n i ds st)
  | 0, i, ds, st => rfl
  | n + 1, i, ds, st => by
    simp only [callN]
    split
    · exact runFn_mv hB (callN_mv hB fs F n) _ ds st
    · rfl
end
/-! ### data without cells -/
mutual
def nf : D → Bool
  | .tup ds => nfs ds
  | .lst ds => nfs ds
  | .kl ds => nfs ds
  | .ref _ => false
  | _ => true
def nfs : List D → Bool
  | [] => true
  | d :: ds => nf d && nfs ds
end
mutual
theorem mv_nf (k : Nat) : ∀ d : D, nf d = true → mv k d = d
  | .tup ds, h => by simp only [nf] at h; simp only [mv, mvs_nf k ds h]
  | .lst ds, h => by simp only [nf] at h; simp only [mv, mvs_nf k ds h]
  | .kl ds, h => by simp only [nf] at h; simp only [mv, mvs_nf k ds h]
  | .ref _, h => by simp only [nf] at h; cases h
  | .non, _ => rfl
  | .bl _, _ => rfl
  | .int _, _ => rfl
  | .str _, _ => rfl
  | .exc _, _ => rfl
theorem mvs_nf (k : Nat) : ∀ ds : List D, nfs ds = true → mvs k ds = ds
  | [], _ => rfl
  | d :: ds, h => by
    simp only [nfs, Bool.and_eq_true] at h
    simp only [mvs, mv_nf k d h.1, mvs_nf k ds h.2]
end
/-- what a call answers with no cells, it answers with any -/
theorem frame {fs : List (Option Fn)} {F n i : Nat} {ds : List D} {d : D} (h : callN fs F n i ds [] = .ok d []) (hd : nfs ds = true) (hr : nf d = true) (B : Hs) (hB : shut B = true) : callN fs F n i ds B = .ok d B := by
  have e := callN_mv hB fs F n i ds []
  rw [h, ← mvs_map, mvs_nf _ _ hd] at e
  simp only [mvX, mv_nf _ _ hr] at e
  simpa [mvH] using e
theorem frameX {fs : List (Option Fn)} {F n i : Nat} {ds : List D} {c : Str} (h : callN fs F n i ds [] = .exc c []) (hd : nfs ds = true) (B : Hs) (hB : shut B = true) : callN fs F n i ds B = .exc c B := by
  have e := callN_mv hB fs F n i ds []
  rw [h, ← mvs_map, mvs_nf _ _ hd] at e
  simpa [mvX, mvH] using e
end Rf

namespace U
open PySem Rf
def f_divisor : Fn := ⟨2, 2, true, (.cons (.asg (.tup (.cons (.name 0) (.cons (.name 1) .nil))) (.tup (.cons (.blt .abs (.cons (.v 0) .nil)) (.cons (.blt .abs (.cons (.v 1) .nil)) .nil))))
 (.cons (.while_ (.cmp .ne (.v 1) (.k (.int 0))) (.cons (.asg (.tup (.cons (.name 0) (.cons (.name 1) .nil))) (.tup (.cons (.v 1) (.cons (.bin .mod (.v 0) (.v 1)) .nil))))
 .nil))
 (.cons (.ret (.v 0))
 .nil)))⟩
abbrev i_divisor : Nat := 0
def f_worth : Fn := ⟨4, 2, true, (.cons (.ret (.blt .sum (.cons (.ofL (.comp [2, 3] (.tup (.cons (.name 2) (.cons (.name 3) .nil))) (.enum (.v 0)) .none (.bin .mul (.v 3) (.ix (.v 1) (.v 2))))) .nil)))
 .nil)⟩
abbrev i_worth : Nat := 1
def f_is_whole : Fn := ⟨3, 3, true, (.cons (.ret (.bop true (.cons (.isi (.v 0) .int) (.cons (.not (.isi (.v 0) .bool)) (.cons (.chain .le .le (.v 1) (.v 0) (.v 2)) .nil)))))
 .nil)⟩
abbrev i_is_whole : Nat := 2
def f_need_people : Fn := ⟨1, 1, true, (.cons (.ife (.not (.call 2 (.cons (.v 0) (.cons (.k (.int 2)) (.cons (.k (.int 3)) .nil))))) (.cons (.raise "InvalidPeople")
 .nil) .nil)
 .nil)⟩
abbrev i_need_people : Nat := 3
def f_within : Fn := ⟨3, 2, true, (.cons (.ret (.blt .all (.cons (.ofL (.comp [2] (.name 2) (.seq (.v 0)) .none (.cmp .in_ (.v 2) (.v 1)))) .nil)))
 .nil)⟩
abbrev i_within : Nat := 4
def f_is_sets : Fn := ⟨5, 2, true, (.cons (.ife (.bop false (.cons (.not (.isi (.v 0) .tuple)) (.cons (.cmp .eq (.v 0) (.tup .nil)) (.cons (.not (.blt .all (.cons (.ofL (.comp [2] (.name 2) (.seq (.v 0)) .none (.bop true (.cons (.isi (.v 2) .tuple) (.cons (.cmp .ne (.v 2) (.tup .nil)) .nil))))) .nil))) .nil)))) (.cons (.ret (.k (.bl false)))
 .nil) .nil)
 (.cons (.for_ (.name 2) (.seq (.v 0)) (.cons (.ife (.bop false (.cons (.not (.blt .all (.cons (.ofL (.comp [4] (.name 4) (.seq (.v 2)) .none (.call 2 (.cons (.v 4) (.cons (.k (.int 0)) (.cons (.bin .sub (.v 1) (.k (.int 1))) .nil)))))) .nil))) (.cons (.cmp .ne (.ofL (.listOf (.v 2))) (.ofL (.sortedSet (.v 2)))) .nil))) (.cons (.ret (.k (.bl false)))
 .nil) .nil)
 .nil))
 (.cons (.ife (.cmp .ne (.ofL (.listOf (.v 0))) (.ofL (.sortedSet (.v 0)))) (.cons (.ret (.k (.bl false)))
 .nil) .nil)
 (.cons (.for_ (.name 2) (.seq (.v 0)) (.cons (.ife (.blt .any (.cons (.ofL (.comp [3] (.name 3) (.seq (.v 0)) .none (.bop true (.cons (.cmp .ne (.v 2) (.v 3)) (.cons (.call 4 (.cons (.v 2) (.cons (.v 3) .nil))) .nil))))) .nil)) (.cons (.ret (.k (.bl false)))
 .nil) .nil)
 .nil))
 (.cons (.ret (.k (.bl true)))
 .nil)))))⟩
abbrev i_is_sets : Nat := 5
def f_is_shares : Fn := ⟨3, 2, true, (.cons (.ife (.bop false (.cons (.not (.isi (.v 0) .tuple)) (.cons (.cmp .ne (.blt .len (.cons (.v 0) .nil)) (.v 1)) (.cons (.not (.blt .all (.cons (.ofL (.comp [2] (.name 2) (.seq (.v 0)) .none (.call 2 (.cons (.v 2) (.cons (.k (.int 0)) (.cons (.k (.int 9)) .nil)))))) .nil))) .nil)))) (.cons (.ret (.k (.bl false)))
 .nil) .nil)
 (.cons (.ret (.cmp .gt (.blt .sum (.cons (.v 0) .nil)) (.k (.int 0))))
 .nil))⟩
abbrev i_is_shares : Nat := 6
def f_is_rule_for : Fn := ⟨2, 2, true, (.cons (.ife (.bop false (.cons (.not (.isi (.v 0) .tuple)) (.cons (.cmp .eq (.v 0) (.tup .nil)) (.cons (.not (.isi (.ix (.v 0) (.k (.int 0))) .str)) .nil)))) (.cons (.ret (.k (.bl false)))
 .nil) .nil)
 (.cons (.ife (.cmp .eq (.ix (.v 0) (.k (.int 0))) (.k (.str "end"))) (.cons (.ret (.cmp .eq (.blt .len (.cons (.v 0) .nil)) (.k (.int 1))))
 .nil) .nil)
 (.cons (.ife (.cmp .ne (.blt .len (.cons (.v 0) .nil)) (.k (.int 2))) (.cons (.ret (.k (.bl false)))
 .nil) .nil)
 (.cons (.ife (.cmp .eq (.ix (.v 0) (.k (.int 0))) (.k (.str "sets"))) (.cons (.ret (.call 5 (.cons (.ix (.v 0) (.k (.int 1))) (.cons (.v 1) .nil))))
 .nil) .nil)
 (.cons (.ret (.bop true (.cons (.cmp .in_ (.ix (.v 0) (.k (.int 0))) (.tup (.cons (.k (.str "ranks")) (.cons (.k (.str "people")) .nil)))) (.cons (.call 6 (.cons (.ix (.v 0) (.k (.int 1))) (.cons (.v 1) .nil))) .nil))))
 .nil)))))⟩
abbrev i_is_rule_for : Nat := 7
def f_need_rule : Fn := ⟨2, 2, true, (.cons (.ife (.not (.call 7 (.cons (.v 1) (.cons (.v 0) .nil)))) (.cons (.raise "InvalidRule")
 .nil) .nil)
 .nil)⟩
abbrev i_need_rule : Nat := 8
def f_is_places_for : Fn := ⟨3, 2, true, (.cons (.ret (.bop true (.cons (.isi (.v 0) .tuple) (.cons (.cmp .eq (.blt .len (.cons (.v 0) .nil)) (.v 1)) (.cons (.blt .all (.cons (.ofL (.comp [2] (.name 2) (.seq (.v 0)) .none (.call 2 (.cons (.v 2) (.cons (.k (.int 1)) (.cons (.gi "MOST_PLACE" 1000000) .nil)))))) .nil)) .nil)))))
 .nil)⟩
abbrev i_is_places_for : Nat := 9
def f_need_places : Fn := ⟨2, 2, true, (.cons (.ife (.not (.call 9 (.cons (.v 1) (.cons (.v 0) .nil)))) (.cons (.raise "InvalidPlaces")
 .nil) .nil)
 .nil)⟩
abbrev i_need_places : Nat := 10
def f_order_of : Fn := ⟨3, 1, true, (.cons (.ret (.ofL (.comp [1, 2] (.tup (.cons (.name 1) (.cons (.name 2) .nil))) (.seq (.ofL (.sorted (.ofL (.comp [2, 1] (.tup (.cons (.name 2) (.cons (.name 1) .nil))) (.enum (.v 0)) .none (.tup (.cons (.v 1) (.cons (.v 2) .nil)))))))) .none (.v 2))))
 .nil)⟩
abbrev i_order_of : Nat := 11
def f_end_of : Fn := ⟨5, 1, true, (.cons (.asg (.name 1) (.call 11 (.cons (.v 0) .nil)))
 (.cons (.asg (.tup (.cons (.name 2) (.cons (.name 3) (.cons (.name 4) .nil)))) (.tup (.cons (.ix (.v 0) (.ix (.v 1) (.k (.int 0)))) (.cons (.ix (.v 0) (.ix (.v 1) (.bin .fdiv (.blt .len (.cons (.v 1) .nil)) (.k (.int 2))))) (.cons (.ix (.v 0) (.ix (.v 1) (.neg (.k (.int 1))))) .nil)))))
 (.cons (.ret (.ife (.bop false (.cons (.cmp .eq (.blt .len (.cons (.v 1) .nil)) (.k (.int 2))) (.cons (.cmp .le (.bin .sub (.v 3) (.v 2)) (.bin .sub (.v 4) (.v 3))) .nil))) (.ix (.v 1) (.k (.int 0))) (.ix (.v 1) (.neg (.k (.int 1))))))
 .nil)))⟩
abbrev i_end_of : Nat := 12
def f_shares_of : Fn := ⟨8, 2, true, (.cons (.asg (.name 2) (.call 11 (.cons (.v 1) .nil)))
 (.cons (.asg (.name 3) (.alloc (.rep (.ofL (.disp (.cons (.k (.int 0)) .nil))) (.blt .len (.cons (.v 1) .nil)))))
 (.cons (.ife (.cmp .eq (.ix (.v 0) (.k (.int 0))) (.k (.str "people"))) (.cons (.ret (.ofL (.listOf (.ix (.v 0) (.k (.int 1))))))
 .nil) .nil)
 (.cons (.ife (.cmp .eq (.ix (.v 0) (.k (.int 0))) (.k (.str "ranks"))) (.cons (.for_ (.tup (.cons (.name 4) (.cons (.name 5) .nil))) (.enum (.v 2)) (.cons (.asg (.sub (.v 3) (.v 5)) (.ix (.ix (.v 0) (.k (.int 1))) (.v 4)))
 .nil))
 .nil) (.cons (.ife (.cmp .eq (.ix (.v 0) (.k (.int 0))) (.k (.str "sets"))) (.cons (.asgL 6 false (.comp [7] (.name 7) (.seq (.ix (.v 0) (.k (.int 1)))) .none (.blt .max (.cons (.ofL (.comp [5] (.name 5) (.seq (.v 7)) .none (.idx (.v 2) (.v 5)))) .nil))))
 (.cons (.asg (.sub (.v 3) (.ix (.v 2) (.blt .min (.cons (.v 6) .nil)))) (.k (.int 1)))
 .nil)) (.cons (.asg (.sub (.v 3) (.call 12 (.cons (.v 1) .nil))) (.k (.int 1)))
 .nil))
 .nil))
 (.cons (.ret (.v 3))
 .nil)))))⟩
abbrev i_shares_of : Nat := 13
def f_lowest : Fn := ⟨3, 2, true, (.cons (.asg (.name 2) (.call 0 (.cons (.v 0) (.cons (.v 1) .nil))))
 (.cons (.ret (.tup (.cons (.bin .fdiv (.v 0) (.v 2)) (.cons (.bin .fdiv (.v 1) (.v 2)) .nil))))
 .nil))⟩
abbrev i_lowest : Nat := 14
def f_meeting_of : Fn := ⟨3, 2, true, (.cons (.asg (.name 2) (.call 13 (.cons (.v 0) (.cons (.v 1) .nil))))
 (.cons (.ret (.tup (.cons (.call 1 (.cons (.v 2) (.cons (.v 1) .nil))) (.cons (.blt .sum (.cons (.v 2) .nil)) .nil))))
 .nil))⟩
abbrev i_meeting_of : Nat := 15
def f_need_all : Fn := ⟨3, 3, true, (.cons (.expr (.call 3 (.cons (.v 0) .nil)))
 (.cons (.expr (.call 8 (.cons (.v 0) (.cons (.v 1) .nil))))
 (.cons (.expr (.call 10 (.cons (.v 0) (.cons (.v 2) .nil))))
 .nil)))⟩
abbrev i_need_all : Nat := 16
def f_meeting : Fn := ⟨5, 3, true, (.cons (.expr (.call 16 (.cons (.v 0) (.cons (.v 1) (.cons (.v 2) .nil)))))
 (.cons (.asg (.tup (.cons (.name 3) (.cons (.name 4) .nil))) (.call 15 (.cons (.v 1) (.cons (.v 2) .nil))))
 (.cons (.ret (.call 14 (.cons (.v 3) (.cons (.v 4) .nil))))
 .nil)))⟩
abbrev i_meeting : Nat := 17
def f_ways : Fn := ⟨6, 3, true, (.cons (.expr (.call 16 (.cons (.v 0) (.cons (.v 1) (.cons (.v 2) .nil)))))
 (.cons (.asg (.tup (.cons (.name 3) (.cons (.name 4) .nil))) (.call 15 (.cons (.v 1) (.cons (.v 2) .nil))))
 (.cons (.ret (.blt .tuple (.cons (.ofL (.comp [5] (.name 5) (.seq (.v 2)) .none (.call 14 (.cons (.blt .abs (.cons (.bin .sub (.bin .mul (.v 4) (.v 5)) (.v 3)) .nil)) (.cons (.v 4) .nil))))) .nil)))
 .nil)))⟩
abbrev i_ways : Nat := 18
def f__law_cell : Fn := ⟨2, 2, true, (.cons (.ife (.cmp .eq (.v 0) (.ofL (.disp .nil))) (.cons (.ret (.bin .mul (.v 1) (.k (.int 7919))))
 .nil) .nil)
 (.cons (.ret (.bin .add (.ix (.v 0) (.bin .mod (.v 1) (.blt .len (.cons (.v 0) .nil)))) (.bin .mul (.bin .fdiv (.v 1) (.blt .len (.cons (.v 0) .nil))) (.k (.int 104729)))))
 .nil))⟩
abbrev i__law_cell : Nat := 19
def f__law_drawn : Fn := ⟨3, 2, true, (.cons (.asg (.name 2) (.bin .mod (.bin .add (.bin .mul (.v 0) (.k (.int 6364136223846793005))) (.bin .mul (.bin .add (.v 1) (.k (.int 1))) (.k (.int 1442695040888963407)))) (.k (.int 340282366920938463463374607431768211507))))
 (.cons (.asg (.name 2) (.bin .mod (.bin .mul (.v 2) (.v 2)) (.k (.int 340282366920938463463374607431768211297))))
 (.cons (.asg (.name 2) (.bin .mul (.bin .mul (.bin .add (.bin .mod (.v 2) (.k (.int 18446744073709551557))) (.k (.int 1))) (.bin .add (.bin .fdiv (.v 2) (.k (.int 18446744073709551557))) (.k (.int 1)))) (.v 2)))
 (.cons (.ret (.bin .mod (.v 2) (.k (.int 340282366920938463463374607431768211507))))
 .nil))))⟩
abbrev i__law_drawn : Nat := 20
def f__law_roll : Fn := ⟨3, 2, true, (.cons (.ife (.cmp .ge (.ix (.v 0) (.k (.int 0))) (.bin .pow (.k (.int 10)) (.k (.int 18)))) (.cons (.asg (.name 2) (.bin .mod (.ix (.v 0) (.k (.int 0))) (.v 1)))
 (.cons (.asg (.sub (.v 0) (.k (.int 0))) (.bin .fdiv (.ix (.v 0) (.k (.int 0))) (.v 1)))
 (.cons (.ret (.v 2))
 .nil))) .nil)
 (.cons (.asg (.sub (.v 0) (.k (.int 1))) (.bin .add (.ix (.v 0) (.k (.int 1))) (.k (.int 1))))
 (.cons (.ret (.bin .mod (.bin .fdiv (.call 20 (.cons (.ix (.v 0) (.k (.int 0))) (.cons (.ix (.v 0) (.k (.int 1))) .nil))) (.k (.int 8))) (.v 1)))
 .nil)))⟩
abbrev i__law_roll : Nat := 21
def f__law_rounds : Fn := ⟨3, 2, false, (.cons (.ret (.ofL (.comp [2] (.name 2) (.rng1 (.blt .max2 (.cons (.k (.int 1)) (.cons (.blt .min2 (.cons (.v 1) (.cons (.blt .len (.cons (.v 0) .nil)) .nil))) .nil)))) .none (.alloc (.disp (.cons (.call 19 (.cons (.v 0) (.cons (.v 2) .nil))) (.cons (.k (.int 0)) .nil)))))))
 .nil)⟩
abbrev i__law_rounds : Nat := 22
def f__law_inside : Fn := ⟨3, 2, true, (.cons (.ret (.blt .all (.cons (.ofL (.comp [2] (.name 2) (.seq (.v 0)) .none (.cmp .in_ (.v 2) (.v 1)))) .nil)))
 .nil)⟩
abbrev i__law_inside : Nat := 23
def f__law_antichains : Fn := ⟨8, 1, true, (.cons (.asg (.name 1) (.ofL (.disp (.cons (.tup .nil) .nil))))
 (.cons (.for_ (.name 2) (.rng1 (.v 0)) (.cons (.asg (.name 1) (.bin .add (.v 1) (.ofL (.comp [4] (.name 4) (.seq (.v 1)) .none (.bin .add (.v 4) (.tup (.cons (.v 2) .nil)))))))
 .nil))
 (.cons (.asg (.name 3) (.ofL (.disp (.cons (.tup .nil) .nil))))
 (.cons (.for_ (.name 4) (.seq (.sl (.ofL (.sorted (.v 1))) (.some (.k (.int 1))) .none)) (.cons (.asg (.name 5) (.alloc (.disp .nil)))
 (.cons (.for_ (.name 6) (.seq (.v 3)) (.cons (.ife (.not (.blt .any (.cons (.ofL (.comp [7] (.name 7) (.seq (.v 6)) .none (.bop false (.cons (.call 23 (.cons (.v 4) (.cons (.v 7) .nil))) (.cons (.call 23 (.cons (.v 7) (.cons (.v 4) .nil))) .nil))))) .nil))) (.cons (.append (.v 5) (.bin .add (.v 6) (.tup (.cons (.v 4) .nil))))
 .nil) .nil)
 .nil))
 (.cons (.asg (.name 3) (.bin .add (.v 3) (.v 5)))
 .nil))))
 (.cons (.ret (.sl (.ofL (.sorted (.v 3))) (.some (.k (.int 1))) .none))
 .nil)))))⟩
abbrev i__law_antichains : Nat := 24
def f__law_shares : Fn := ⟨5, 3, true, (.cons (.asgL 3 false (.comp [4] (.name 4) (.rng1 (.v 1)) .none (.call 21 (.cons (.v 0) (.cons (.bin .add (.v 2) (.k (.int 1))) .nil)))))
 (.cons (.ret (.ife (.cmp .gt (.blt .sum (.cons (.v 3) .nil)) (.k (.int 0))) (.blt .tuple (.cons (.v 3) .nil)) (.bin .mul (.tup (.cons (.k (.int 1)) .nil)) (.v 1))))
 .nil))⟩
abbrev i__law_shares : Nat := 25
def f__law_rule : Fn := ⟨4, 2, true, (.cons (.asg (.name 2) (.call 21 (.cons (.v 0) (.cons (.k (.int 5)) .nil))))
 (.cons (.ife (.cmp .lt (.v 2) (.k (.int 2))) (.cons (.ret (.tup (.cons (.ix (.ofL (.disp (.cons (.k (.str "ranks")) (.cons (.k (.str "people")) .nil)))) (.v 2)) (.cons (.call 25 (.cons (.v 0) (.cons (.v 1) (.cons (.ix (.ofL (.disp (.cons (.k (.int 1)) (.cons (.k (.int 3)) .nil)))) (.call 21 (.cons (.v 0) (.cons (.k (.int 2)) .nil)))) .nil)))) .nil))))
 .nil) .nil)
 (.cons (.ife (.cmp .eq (.v 2) (.k (.int 2))) (.cons (.ret (.tup (.cons (.k (.str "end")) .nil)))
 .nil) .nil)
 (.cons (.asg (.name 3) (.call 24 (.cons (.v 1) .nil)))
 (.cons (.ret (.tup (.cons (.k (.str "sets")) (.cons (.ix (.v 3) (.call 21 (.cons (.v 0) (.cons (.blt .len (.cons (.v 3) .nil)) .nil)))) .nil))))
 .nil)))))⟩
abbrev i__law_rule : Nat := 26
def f__law_places : Fn := ⟨4, 3, true, (.cons (.ret (.blt .tuple (.cons (.ofL (.comp [3] (.name 3) (.rng1 (.v 1)) .none (.bin .add (.k (.int 1)) (.call 21 (.cons (.v 0) (.cons (.v 2) .nil)))))) .nil)))
 .nil)⟩
abbrev i__law_places : Nat := 27
def f_is_rule : Fn := ⟨2, 2, true, (.cons (.expr (.call 3 (.cons (.v 0) .nil)))
 (.cons (.ret (.call 7 (.cons (.v 1) (.cons (.v 0) .nil))))
 .nil))⟩
abbrev i_is_rule : Nat := 29
def f_is_places : Fn := ⟨2, 2, true, (.cons (.expr (.call 3 (.cons (.v 0) .nil)))
 (.cons (.ret (.call 9 (.cons (.v 1) (.cons (.v 0) .nil))))
 .nil))⟩
abbrev i_is_places : Nat := 30
def f__law_meeting : Fn := ⟨6, 2, true, (.cons (.asg (.name 2) (.ofL (.sorted (.v 1))))
 (.cons (.ife (.cmp .eq (.ix (.v 0) (.k (.int 0))) (.k (.str "people"))) (.cons (.ret (.tup (.cons (.blt .sum (.cons (.ofL (.comp [4, 3] (.tup (.cons (.name 4) (.cons (.name 3) .nil))) (.enum (.ix (.v 0) (.k (.int 1)))) .none (.bin .mul (.v 3) (.ix (.v 1) (.v 4))))) .nil)) (.cons (.blt .sum (.cons (.ix (.v 0) (.k (.int 1))) .nil)) .nil))))
 .nil) .nil)
 (.cons (.ife (.cmp .eq (.ix (.v 0) (.k (.int 0))) (.k (.str "ranks"))) (.cons (.ret (.tup (.cons (.blt .sum (.cons (.ofL (.comp [4, 3] (.tup (.cons (.name 4) (.cons (.name 3) .nil))) (.enum (.ix (.v 0) (.k (.int 1)))) .none (.bin .mul (.v 3) (.ix (.v 2) (.v 4))))) .nil)) (.cons (.blt .sum (.cons (.ix (.v 0) (.k (.int 1))) .nil)) .nil))))
 .nil) .nil)
 (.cons (.ife (.cmp .eq (.ix (.v 0) (.k (.int 0))) (.k (.str "sets"))) (.cons (.ret (.tup (.cons (.blt .min (.cons (.ofL (.comp [3] (.name 3) (.seq (.ix (.v 0) (.k (.int 1)))) .none (.blt .max (.cons (.ofL (.comp [5] (.name 5) (.seq (.v 3)) .none (.ix (.v 1) (.v 5)))) .nil)))) .nil)) (.cons (.k (.int 1)) .nil))))
 .nil) .nil)
 (.cons (.ife (.bop true (.cons (.cmp .eq (.blt .len (.cons (.v 2) .nil)) (.k (.int 3))) (.cons (.cmp .lt (.bin .sub (.ix (.v 2) (.k (.int 2))) (.ix (.v 2) (.k (.int 1)))) (.bin .sub (.ix (.v 2) (.k (.int 1))) (.ix (.v 2) (.k (.int 0))))) .nil))) (.cons (.ret (.tup (.cons (.ix (.v 2) (.k (.int 2))) (.cons (.k (.int 1)) .nil))))
 .nil) .nil)
 (.cons (.ret (.tup (.cons (.ix (.v 2) (.k (.int 0))) (.cons (.k (.int 1)) .nil))))
 .nil))))))⟩
abbrev i__law_meeting : Nat := 33
def f__law_fraction : Fn := ⟨4, 2, true, (.cons (.asg (.tup (.cons (.name 2) (.cons (.name 3) .nil))) (.tup (.cons (.blt .abs (.cons (.v 0) .nil)) (.cons (.v 1) .nil))))
 (.cons (.while_ (.cmp .ne (.v 3) (.k (.int 0))) (.cons (.asg (.tup (.cons (.name 2) (.cons (.name 3) .nil))) (.tup (.cons (.v 3) (.cons (.bin .mod (.v 2) (.v 3)) .nil))))
 .nil))
 (.cons (.ret (.tup (.cons (.bin .fdiv (.v 0) (.v 2)) (.cons (.bin .fdiv (.v 1) (.v 2)) .nil))))
 .nil)))⟩
abbrev i__law_fraction : Nat := 34
def f__law_refused : Fn := ⟨5, 2, true, (.cons (.asg (.name 2) (.ofL (.disp (.cons (.k .non) (.cons (.tup .nil) (.cons (.bin .mul (.tup (.cons (.k (.int 1)) .nil)) (.bin .add (.v 0) (.k (.int 1)))) (.cons (.bin .mul (.tup (.cons (.k (.int 0)) .nil)) (.v 0)) (.cons (.bin .mul (.ofL (.disp (.cons (.k (.int 1)) .nil))) (.v 0)) (.cons (.bin .mul (.tup (.cons (.k (.bl true)) .nil)) (.v 0)) .nil)))))))))
 (.cons (.asg (.name 2) (.bin .add (.v 2) (.ofL (.disp (.cons (.bin .mul (.tup (.cons (.bin .add (.bin .pow (.k (.int 10)) (.k (.int 6))) (.k (.int 1))) .nil)) (.v 0)) (.cons (.bin .mul (.tup (.cons (.k (.str "1")) .nil)) (.v 0)) (.cons (.k (.int 5)) .nil)))))))
 (.cons (.for_ (.name 3) (.seq (.v 2)) (.cons (.ife (.call 30 (.cons (.v 0) (.cons (.v 3) .nil))) (.cons (.ret (.k (.bl false)))
 .nil) .nil)
 (.cons (.ife (.cmp .ne (.told (.call 17 (.cons (.v 0) (.cons (.v 1) (.cons (.v 3) .nil))))) (.tup (.cons (.k (.str "error")) (.cons (.k (.str "InvalidPlaces")) .nil)))) (.cons (.ret (.k (.bl false)))
 .nil) .nil)
 .nil)))
 (.cons (.asg (.name 3) (.ofL (.disp (.cons (.k .non) (.cons (.tup .nil) (.cons (.k (.str "end")) (.cons (.tup (.cons (.k (.str "end")) (.cons (.k (.int 1)) .nil))) (.cons (.tup (.cons (.k (.str "ranks")) .nil)) (.cons (.tup (.cons (.k (.str "ranks")) (.cons (.bin .mul (.tup (.cons (.k (.int 0)) .nil)) (.v 0)) .nil))) (.cons (.tup (.cons (.k (.str "ranks")) (.cons (.bin .mul (.tup (.cons (.k (.int 10)) .nil)) (.v 0)) .nil))) .nil))))))))))
 (.cons (.asg (.name 3) (.bin .add (.v 3) (.ofL (.disp (.cons (.tup (.cons (.k (.str "ranks")) (.cons (.bin .mul (.ofL (.disp (.cons (.k (.int 1)) .nil))) (.v 0)) .nil))) (.cons (.tup (.cons (.k (.str "mean")) (.cons (.bin .mul (.tup (.cons (.k (.int 1)) .nil)) (.v 0)) .nil))) .nil))))))
 (.cons (.asg (.name 3) (.bin .add (.v 3) (.ofL (.disp (.cons (.tup (.cons (.k (.str "sets")) (.cons (.tup .nil) .nil))) (.cons (.tup (.cons (.k (.str "sets")) (.cons (.tup (.cons (.tup .nil) .nil)) .nil))) (.cons (.tup (.cons (.k (.str "sets")) (.cons (.tup (.cons (.tup (.cons (.k (.int 0)) .nil)) (.cons (.tup (.cons (.k (.int 0)) (.cons (.k (.int 1)) .nil))) .nil))) .nil))) (.cons (.tup (.cons (.k (.str "sets")) (.cons (.tup (.cons (.tup (.cons (.k (.int 1)) .nil)) (.cons (.tup (.cons (.k (.int 0)) .nil)) .nil))) .nil))) .nil))))))))
 (.cons (.asg (.name 3) (.bin .add (.v 3) (.ofL (.disp (.cons (.tup (.cons (.k (.str "sets")) (.cons (.tup (.cons (.tup (.cons (.k (.int 1)) (.cons (.k (.int 0)) .nil))) .nil)) .nil))) (.cons (.tup (.cons (.k (.str "sets")) (.cons (.tup (.cons (.tup (.cons (.v 0) .nil)) .nil)) .nil))) .nil))))))
 (.cons (.asg (.name 3) (.bin .add (.v 3) (.ofL (.disp (.cons (.tup (.cons (.k (.str "people")) (.cons (.bin .mul (.tup (.cons (.k (.int 1)) .nil)) (.bin .add (.v 0) (.k (.int 1)))) .nil))) (.cons (.tup (.cons (.k (.str "people")) (.cons (.bin .add (.tup (.cons (.neg (.k (.int 1))) .nil)) (.bin .mul (.tup (.cons (.k (.int 1)) .nil)) (.bin .sub (.v 0) (.k (.int 1))))) .nil))) .nil))))))
 (.cons (.for_ (.name 4) (.seq (.bin .add (.v 3) (.ofL (.disp (.cons (.tup (.cons (.k (.str "sets")) (.cons (.ofL (.disp (.cons (.tup (.cons (.k (.int 0)) .nil)) .nil))) .nil))) (.cons (.tup (.cons (.k (.int 1)) (.cons (.bin .mul (.tup (.cons (.k (.int 1)) .nil)) (.v 0)) .nil))) (.cons (.tup (.cons (.k (.str "sets")) (.cons (.tup (.cons (.tup (.cons (.k (.int 0)) (.cons (.k (.int 0)) .nil))) .nil)) .nil))) .nil))))))) (.cons (.ife (.call 29 (.cons (.v 0) (.cons (.v 4) .nil))) (.cons (.ret (.k (.bl false)))
 .nil) .nil)
 (.cons (.ife (.cmp .ne (.told (.call 18 (.cons (.v 0) (.cons (.v 4) (.cons (.k .non) .nil))))) (.tup (.cons (.k (.str "error")) (.cons (.k (.str "InvalidRule")) .nil)))) (.cons (.ret (.k (.bl false)))
 .nil) .nil)
 .nil)))
 (.cons (.for_ (.name 4) (.seq (.ofL (.disp (.cons (.k (.int 1)) (.cons (.k (.int 4)) (.cons (.k .non) (.cons (.k (.bl true)) (.cons (.k (.str "3")) (.cons (.k (.int 0)) .nil))))))))) (.cons (.ife (.cmp .ne (.told (.call 17 (.cons (.v 4) (.cons (.k .non) (.cons (.k .non) .nil))))) (.tup (.cons (.k (.str "error")) (.cons (.k (.str "InvalidPeople")) .nil)))) (.cons (.ret (.k (.bl false)))
 .nil) .nil)
 .nil))
 (.cons (.ret (.k (.bl true)))
 .nil)))))))))))⟩
abbrev i__law_refused : Nat := 35
def f_minus : Fn := ⟨4, 2, true, (.cons (.ret (.blt .tuple (.cons (.ofL (.comp [2, 3] (.tup (.cons (.name 2) (.cons (.name 3) .nil))) (.enum (.v 0)) .none (.bin .sub (.v 3) (.ix (.v 1) (.v 2))))) .nil)))
 .nil)⟩
abbrev i_minus : Nat := 36
def f_plus : Fn := ⟨4, 2, true, (.cons (.ret (.blt .tuple (.cons (.ofL (.comp [2, 3] (.tup (.cons (.name 2) (.cons (.name 3) .nil))) (.enum (.v 0)) .none (.bin .add (.v 3) (.ix (.v 1) (.v 2))))) .nil)))
 .nil)⟩
abbrev i_plus : Nat := 37
def f_times : Fn := ⟨3, 2, true, (.cons (.ret (.blt .tuple (.cons (.ofL (.comp [2] (.name 2) (.seq (.v 0)) .none (.bin .mul (.v 1) (.v 2)))) .nil)))
 .nil)⟩
abbrev i_times : Nat := 38
def f_unit : Fn := ⟨3, 2, true, (.cons (.ret (.blt .tuple (.cons (.ofL (.comp [2] (.name 2) (.rng1 (.v 1)) .none (.blt .int (.cons (.cmp .eq (.v 2) (.v 0)) .nil)))) .nil)))
 .nil)⟩
abbrev i_unit : Nat := 39
def f_orders_of : Fn := ⟨6, 1, true, (.cons (.asg (.name 1) (.ofL (.disp (.cons (.tup .nil) .nil))))
 (.cons (.for_ (.name 2) (.rng1 (.v 0)) (.cons (.asg (.name 3) (.ofL (.disp .nil)))
 (.cons (.for_ (.name 4) (.seq (.v 1)) (.cons (.asg (.name 3) (.bin .add (.v 3) (.ofL (.comp [5] (.name 5) (.rng1 (.v 0)) (.some (.cmp .nin (.v 5) (.v 4))) (.bin .add (.v 4) (.tup (.cons (.v 5) .nil)))))))
 .nil))
 (.cons (.asg (.name 1) (.v 3))
 .nil))))
 (.cons (.ret (.v 1))
 .nil)))⟩
abbrev i_orders_of : Nat := 40
def f_order_conditions : Fn := ⟨5, 1, true, (.cons (.asg (.tup (.cons (.name 2) (.cons (.name 3) .nil))) (.tup (.cons (.alloc (.disp .nil)) (.cons (.blt .len (.cons (.v 0) .nil)) .nil))))
 (.cons (.for_ (.name 1) (.rng1 (.bin .sub (.v 3) (.k (.int 1)))) (.cons (.asg (.name 4) (.call 36 (.cons (.call 39 (.cons (.ix (.v 0) (.bin .add (.v 1) (.k (.int 1)))) (.cons (.v 3) .nil))) (.cons (.call 39 (.cons (.ix (.v 0) (.v 1)) (.cons (.v 3) .nil))) .nil))))
 (.cons (.append (.v 2) (.tup (.cons (.ife (.cmp .lt (.ix (.v 0) (.v 1)) (.ix (.v 0) (.bin .add (.v 1) (.k (.int 1))))) (.k (.str "least")) (.k (.str "more"))) (.cons (.v 4) .nil))))
 .nil)))
 (.cons (.ret (.v 2))
 .nil)))⟩
abbrev i_order_conditions : Nat := 41
def f_end_cones : Fn := ⟨5, 1, true, (.cons (.ife (.cmp .eq (.blt .len (.cons (.v 0) .nil)) (.k (.int 2))) (.cons (.ret (.ofL (.disp (.cons (.tup (.cons (.ix (.v 0) (.k (.int 0))) (.cons (.ofL (.disp .nil)) .nil))) .nil))))
 .nil) .nil)
 (.cons (.asgL 1 false (.comp [3] (.name 3) (.seq (.v 0)) .none (.call 39 (.cons (.v 3) (.cons (.k (.int 3)) .nil)))))
 (.cons (.asg (.name 2) (.call 36 (.cons (.call 37 (.cons (.ix (.v 1) (.k (.int 0))) (.cons (.ix (.v 1) (.k (.int 2))) .nil))) (.cons (.call 38 (.cons (.ix (.v 1) (.k (.int 1))) (.cons (.k (.int 2)) .nil))) .nil))))
 (.cons (.ret (.ofL (.disp (.cons (.tup (.cons (.ix (.v 0) (.k (.int 0))) (.cons (.ofL (.disp (.cons (.tup (.cons (.k (.str "least")) (.cons (.v 2) .nil))) .nil))) .nil))) (.cons (.tup (.cons (.ix (.v 0) (.k (.int 2))) (.cons (.ofL (.disp (.cons (.tup (.cons (.k (.str "more")) (.cons (.blt .tuple (.cons (.ofL (.comp [4] (.name 4) (.seq (.v 2)) .none (.neg (.v 4)))) .nil)) .nil))) .nil))) .nil))) .nil)))))
 .nil))))⟩
abbrev i_end_cones : Nat := 42
def f_cones_of : Fn := ⟨9, 2, true, (.cons (.ife (.cmp .eq (.ix (.v 1) (.k (.int 0))) (.k (.str "people"))) (.cons (.ret (.ofL (.disp (.cons (.tup (.cons (.ix (.v 1) (.k (.int 1))) (.cons (.ofL (.disp .nil)) .nil))) .nil))))
 .nil) .nil)
 (.cons (.asg (.name 2) (.alloc (.disp .nil)))
 (.cons (.for_ (.name 3) (.seq (.call 40 (.cons (.v 0) .nil))) (.cons (.asg (.name 4) (.call 41 (.cons (.v 3) .nil)))
 (.cons (.ife (.cmp .eq (.ix (.v 1) (.k (.int 0))) (.k (.str "end"))) (.cons (.for_ (.tup (.cons (.name 5) (.cons (.name 6) .nil))) (.seq (.call 42 (.cons (.v 3) .nil))) (.cons (.append (.v 2) (.tup (.cons (.call 39 (.cons (.v 5) (.cons (.v 0) .nil))) (.cons (.bin .add (.v 4) (.v 6)) .nil))))
 .nil))
 .nil) (.cons (.ife (.cmp .eq (.ix (.v 1) (.k (.int 0))) (.k (.str "ranks"))) (.cons (.append (.v 2) (.tup (.cons (.blt .tuple (.cons (.ofL (.comp [5] (.name 5) (.rng1 (.v 0)) .none (.ix (.ix (.v 1) (.k (.int 1))) (.idx (.v 3) (.v 5))))) .nil)) (.cons (.v 4) .nil))))
 .nil) (.cons (.asg (.name 7) (.blt .min (.cons (.ofL (.comp [8] (.name 8) (.seq (.ix (.v 1) (.k (.int 1)))) .none (.blt .max (.cons (.ofL (.comp [5] (.name 5) (.seq (.v 8)) .none (.idx (.v 3) (.v 5)))) .nil)))) .nil)))
 (.cons (.append (.v 2) (.tup (.cons (.call 39 (.cons (.ix (.v 3) (.v 7)) (.cons (.v 0) .nil))) (.cons (.v 4) .nil))))
 .nil)))
 .nil))
 .nil)))
 (.cons (.ret (.v 2))
 .nil))))⟩
abbrev i_cones_of : Nat := 43
def f_Table__init_ : Fn := ⟨8, 3, false, (.cons (.fld "Table" (.v 0) "many" (.v 2))
 (.cons (.fld "Table" (.v 0) "rows" (.alloc (.disp .nil)))
 (.cons (.fld "Table" (.v 0) "basis" (.alloc (.disp .nil)))
 (.cons (.fld "Table" (.v 0) "bottom" (.k (.int 1)))
 (.cons (.fld "Table" (.v 0) "first_made" (.bin .add (.v 2) (.blt .len (.cons (.v 1) .nil))))
 (.cons (.for_ (.tup (.cons (.name 3) (.cons (.tup (.cons (.name 5) (.cons (.name 6) .nil))) .nil))) (.enum (.v 1)) (.cons (.asg (.name 4) (.alloc (.cat (.bin .add (.ofL (.listOf (.v 5))) (.bin .mul (.ofL (.disp (.cons (.k (.int 0)) .nil))) (.bin .mul (.k (.int 2)) (.blt .len (.cons (.v 1) .nil))))) (.ofL (.disp (.cons (.v 6) .nil))))))
 (.cons (.asg (.sub (.v 4) (.bin .add (.v 2) (.v 3))) (.neg (.k (.int 1))))
 (.cons (.ife (.cmp .gt (.v 6) (.k (.int 0))) (.cons (.asg (.sub (.v 4) (.bin .add (.bin .add (.v 2) (.blt .len (.cons (.v 1) .nil))) (.v 3))) (.k (.int 1)))
 (.cons (.append (.fld "Table" (.v 0) "basis") (.bin .add (.bin .add (.v 2) (.blt .len (.cons (.v 1) .nil))) (.v 3)))
 .nil)) (.cons (.asgL 4 true (.comp [7] (.name 7) (.seq (.v 4)) .none (.neg (.v 7))))
 (.cons (.append (.fld "Table" (.v 0) "basis") (.bin .add (.v 2) (.v 3)))
 .nil)))
 (.cons (.append (.fld "Table" (.v 0) "rows") (.v 4))
 .nil)))))
 .nil))))))⟩
abbrev i_Table__init_ : Nat := 44
def f_Table_gains : Fn := ⟨5, 1, true, (.cons (.asg (.name 1) (.bin .mul (.ofL (.disp (.cons (.k (.int 0)) .nil))) (.bin .add (.bin .add (.fld "Table" (.v 0) "first_made") (.blt .len (.cons (.fld "Table" (.v 0) "rows") .nil))) (.k (.int 1)))))
 (.cons (.for_ (.tup (.cons (.name 2) (.cons (.name 3) .nil))) (.enum (.fld "Table" (.v 0) "rows")) (.cons (.ife (.cmp .ge (.ix (.fld "Table" (.v 0) "basis") (.v 2)) (.fld "Table" (.v 0) "first_made")) (.cons (.asgL 1 false (.comp [4] (.name 4) (.rng1 (.blt .len (.cons (.v 3) .nil))) .none (.bin .add (.ix (.v 1) (.v 4)) (.ix (.v 3) (.v 4)))))
 .nil) .nil)
 .nil))
 (.cons (.ret (.v 1))
 .nil)))⟩
abbrev i_Table_gains : Nat := 45
def f_Table_exchange : Fn := ⟨11, 3, false, (.cons (.asg (.tup (.cons (.name 4) (.cons (.name 5) .nil))) (.tup (.cons (.ix (.fld "Table" (.v 0) "rows") (.v 1)) (.cons (.alloc (.disp .nil)) .nil))))
 (.cons (.asg (.name 3) (.ix (.v 4) (.v 2)))
 (.cons (.for_ (.tup (.cons (.name 6) (.cons (.name 7) .nil))) (.enum (.fld "Table" (.v 0) "rows")) (.cons (.asg (.name 8) (.ix (.v 7) (.v 2)))
 (.cons (.asgL 9 false (.comp [10] (.name 10) (.rng1 (.blt .len (.cons (.v 7) .nil))) .none (.bin .fdiv (.bin .sub (.bin .mul (.ix (.v 7) (.v 10)) (.v 3)) (.bin .mul (.v 8) (.ix (.v 4) (.v 10)))) (.fld "Table" (.v 0) "bottom"))))
 (.cons (.append (.v 5) (.ife (.cmp .eq (.v 6) (.v 1)) (.v 4) (.v 9)))
 .nil))))
 (.cons (.fld "Table" (.v 0) "rows" (.v 5))
 (.cons (.fld "Table" (.v 0) "bottom" (.v 3))
 (.cons (.asg (.sub (.fld "Table" (.v 0) "basis") (.v 1)) (.v 2))
 .nil))))))⟩
abbrev i_Table_exchange : Nat := 46
def f_Table_settle : Fn := ⟨4, 1, false, (.cons (.while_ (.k (.bl true)) (.cons (.asg (.name 1) (.meth "Table" "gains" 45 (.v 0) .nil))
 (.cons (.ife (.cmp .eq (.ix (.v 1) (.neg (.k (.int 1)))) (.k (.int 0))) (.cons (.ret (.k (.bl true)))
 .nil) .nil)
 (.cons (.asgL 2 false (.comp [3] (.name 3) (.rng1 (.fld "Table" (.v 0) "first_made")) (.some (.bop true (.cons (.cmp .gt (.ix (.v 1) (.v 3)) (.k (.int 0))) (.cons (.cmp .nin (.v 3) (.fld "Table" (.v 0) "basis")) .nil)))) (.v 3)))
 (.cons (.ife (.cmp .eq (.v 2) (.ofL (.disp .nil))) (.cons (.ret (.k (.bl false)))
 .nil) .nil)
 (.cons (.expr (.meth "Table" "exchange" 46 (.v 0) (.cons (.meth "Table" "row_for" 48 (.v 0) (.cons (.ix (.v 2) (.k (.int 0))) .nil)) (.cons (.ix (.v 2) (.k (.int 0))) .nil))))
 .nil))))))
 .nil)⟩
abbrev i_Table_settle : Nat := 47
def f_Table_row_for : Fn := ⟨6, 2, true, (.cons (.asg (.name 2) (.k .non))
 (.cons (.for_ (.tup (.cons (.name 3) (.cons (.name 4) .nil))) (.enum (.fld "Table" (.v 0) "rows")) (.cons (.ife (.cmp .gt (.ix (.v 4) (.v 1)) (.k (.int 0))) (.cons (.ife (.isN (.v 2)) (.cons (.asg (.name 2) (.v 3))
 .nil) (.cons (.asg (.name 5) (.bin .sub (.bin .mul (.ix (.v 4) (.neg (.k (.int 1)))) (.ix (.ix (.fld "Table" (.v 0) "rows") (.v 2)) (.v 1))) (.bin .mul (.ix (.ix (.fld "Table" (.v 0) "rows") (.v 2)) (.neg (.k (.int 1)))) (.ix (.v 4) (.v 1)))))
 (.cons (.ife (.bop false (.cons (.cmp .lt (.v 5) (.k (.int 0))) (.cons (.bop true (.cons (.cmp .eq (.v 5) (.k (.int 0))) (.cons (.cmp .lt (.ix (.fld "Table" (.v 0) "basis") (.v 3)) (.ix (.fld "Table" (.v 0) "basis") (.v 2))) .nil))) .nil))) (.cons (.asg (.name 2) (.v 3))
 .nil) .nil)
 .nil)))
 .nil) .nil)
 .nil))
 (.cons (.ret (.v 2))
 .nil)))⟩
abbrev i_Table_row_for : Nat := 48
def f_sums_of : Fn := ⟨3, 1, true, (.cons (.ret (.ofL (.comp [1, 2] (.tup (.cons (.name 1) (.cons (.name 2) .nil))) (.seq (.v 0)) .none (.tup (.cons (.v 2) (.cons (.ife (.cmp .eq (.v 1) (.k (.str "more"))) (.k (.int 1)) (.k (.int 0))) .nil))))))
 .nil)⟩
abbrev i_sums_of : Nat := 49
def f_point_for : Fn := ⟨8, 2, true, (.cons (.asg (.name 2) (.alloc (.disp (.cons (.tup (.cons (.bin .add (.bin .mul (.tup (.cons (.k (.int 0)) .nil)) (.v 1)) (.tup (.cons (.k (.int 1)) .nil))) (.cons (.k (.int 1)) .nil))) .nil))))
 (.cons (.for_ (.tup (.cons (.name 4) (.cons (.name 5) .nil))) (.seq (.bin .add (.ofL (.listOf (.v 0))) (.ofL (.comp [6] (.name 6) (.rng1 (.v 1)) .none (.tup (.cons (.k (.str "more")) (.cons (.call 51 (.cons (.v 6) (.cons (.v 1) .nil))) .nil))))))) (.cons (.append (.v 2) (.tup (.cons (.bin .add (.blt .tuple (.cons (.ofL (.comp [7] (.name 7) (.seq (.v 5)) .none (.neg (.v 7)))) .nil)) (.tup (.cons (.blt .int (.cons (.cmp .eq (.v 4) (.k (.str "more"))) .nil)) .nil))) (.cons (.k (.int 0)) .nil))))
 .nil))
 (.cons (.asg (.name 3) (.make "Peak" 56 (.cons (.v 2) (.cons (.bin .add (.bin .mul (.tup (.cons (.k (.int 0)) .nil)) (.v 1)) (.tup (.cons (.k (.int 1)) .nil))) .nil))))
 (.cons (.ret (.ife (.cmp .gt (.ix (.meth "Peak" "settle" 57 (.v 3) .nil) (.k (.int 0))) (.k (.int 0))) (.meth "Peak" "point" 58 (.v 3) (.cons (.v 1) .nil)) (.k .non)))
 .nil))))⟩
abbrev i_point_for : Nat := 50
def f_unit_row : Fn := ⟨3, 2, true, (.cons (.ret (.blt .tuple (.cons (.ofL (.comp [2] (.name 2) (.rng1 (.v 1)) .none (.blt .int (.cons (.cmp .eq (.v 2) (.v 0)) .nil)))) .nil)))
 .nil)⟩
abbrev i_unit_row : Nat := 51
def f_is_open : Fn := ⟨4, 2, true, (.cons (.ife (.cmp .eq (.v 1) (.k (.int 0))) (.cons (.ret (.blt .all (.cons (.ofL (.comp [2, 3] (.tup (.cons (.name 2) (.cons (.name 3) .nil))) (.seq (.v 0)) .none (.cmp .le (.v 3) (.k (.int 0))))) .nil)))
 .nil) .nil)
 (.cons (.ret (.meth "Table" "settle" 47 (.make "Table" 44 (.cons (.v 0) (.cons (.v 1) .nil))) .nil))
 .nil))⟩
abbrev i_is_open : Nat := 52
def f_rest_of : Fn := ⟨4, 2, true, (.cons (.ret (.ofL (.comp [2, 3] (.tup (.cons (.name 2) (.cons (.name 3) .nil))) (.seq (.v 0)) .none (.tup (.cons (.sl (.v 2) (.some (.k (.int 1))) .none) (.cons (.bin .sub (.v 3) (.bin .mul (.ix (.v 2) (.k (.int 0))) (.v 1))) .nil))))))
 .nil)⟩
abbrev i_rest_of : Nat := 53
def f_first_whole : Fn := ⟨11, 3, true, (.cons (.ife (.cmp .eq (.v 1) (.k (.int 1))) (.cons (.ret (.ife (.blt .all (.cons (.ofL (.comp [9, 10] (.tup (.cons (.name 9) (.cons (.name 10) .nil))) (.seq (.v 0)) .none (.cmp .ge (.bin .mul (.ix (.v 9) (.k (.int 0))) (.v 2)) (.v 10)))) .nil)) (.tup (.cons (.v 2) .nil)) (.k .non)))
 .nil) .nil)
 (.cons (.for_ (.name 3) (.rng2 (.k (.int 1)) (.bin .add (.bin .sub (.v 2) (.v 1)) (.k (.int 2)))) (.cons (.asg (.name 4) (.call 53 (.cons (.v 0) (.cons (.v 3) .nil))))
 (.cons (.asg (.name 5) (.ofL (.disp (.cons (.tup (.cons (.bin .mul (.tup (.cons (.k (.int 1)) .nil)) (.bin .sub (.v 1) (.k (.int 1)))) (.cons (.bin .sub (.v 2) (.v 3)) .nil))) (.cons (.tup (.cons (.bin .mul (.tup (.cons (.neg (.k (.int 1))) .nil)) (.bin .sub (.v 1) (.k (.int 1)))) (.cons (.bin .sub (.v 3) (.v 2)) .nil))) .nil)))))
 (.cons (.asgL 6 false (.comp [8] (.name 8) (.rng1 (.bin .sub (.v 1) (.k (.int 1)))) .none (.tup (.cons (.call 51 (.cons (.v 8) (.cons (.bin .sub (.v 1) (.k (.int 1))) .nil))) (.cons (.k (.int 1)) .nil)))))
 (.cons (.ife (.call 52 (.cons (.bin .add (.bin .add (.v 4) (.v 5)) (.v 6)) (.cons (.bin .sub (.v 1) (.k (.int 1))) .nil))) (.cons (.asg (.name 7) (.call 54 (.cons (.v 4) (.cons (.bin .sub (.v 1) (.k (.int 1))) (.cons (.bin .sub (.v 2) (.v 3)) .nil)))))
 (.cons (.ife (.notN (.v 7)) (.cons (.ret (.bin .add (.tup (.cons (.v 3) .nil)) (.v 7)))
 .nil) .nil)
 .nil)) .nil)
 .nil)))))
 (.cons (.ret (.k .non))
 .nil)))⟩
abbrev i_first_whole : Nat := 54
def f_least_in : Fn := ⟨10, 3, true, (.cons (.asgL 0 false (.comp [6] (.name 6) (.seq (.v 0)) (.some (.notN (.call 50 (.cons (.v 6) (.cons (.v 1) .nil))))) (.call 49 (.cons (.v 6) .nil))))
 (.cons (.ife (.cmp .eq (.v 0) (.ofL (.disp .nil))) (.cons (.ret (.k .non))
 .nil) .nil)
 (.cons (.asgL 3 false (.comp [7] (.name 7) (.rng1 (.v 1)) .none (.tup (.cons (.call 51 (.cons (.v 7) (.cons (.v 1) .nil))) (.cons (.k (.int 1)) .nil)))))
 (.cons (.while_ (.k (.bl true)) (.cons (.asg (.name 4) (.ofL (.disp (.cons (.tup (.cons (.bin .mul (.tup (.cons (.k (.int 1)) .nil)) (.v 1)) (.cons (.v 2) .nil))) (.cons (.tup (.cons (.bin .mul (.tup (.cons (.neg (.k (.int 1))) .nil)) (.v 1)) (.cons (.neg (.v 2)) .nil))) .nil)))))
 (.cons (.asgL 5 false (.comp [8] (.name 8) (.seq (.v 0)) (.some (.call 52 (.cons (.bin .add (.bin .add (.v 8) (.v 3)) (.v 4)) (.cons (.v 1) .nil)))) (.call 54 (.cons (.v 8) (.cons (.v 1) (.cons (.v 2) .nil))))))
 (.cons (.asgL 5 false (.comp [9] (.name 9) (.seq (.v 5)) (.some (.notN (.v 9))) (.v 9)))
 (.cons (.ife (.cmp .ne (.v 5) (.ofL (.disp .nil))) (.cons (.ret (.blt .min (.cons (.v 5) .nil)))
 .nil) .nil)
 (.cons (.asg (.name 2) (.bin .add (.v 2) (.k (.int 1))))
 .nil))))))
 .nil))))⟩
abbrev i_least_in : Nat := 55
def f_Peak__init_ : Fn := ⟨9, 3, false, (.cons (.asg (.name 3) (.blt .len (.cons (.v 2) .nil)))
 (.cons (.fld "Peak" (.v 0) "rows" (.alloc (.disp .nil)))
 (.cons (.fld "Peak" (.v 0) "basis" (.alloc (.disp .nil)))
 (.cons (.fld "Peak" (.v 0) "bottom" (.k (.int 1)))
 (.cons (.for_ (.tup (.cons (.name 4) (.cons (.tup (.cons (.name 5) (.cons (.name 6) .nil))) .nil))) (.enum (.v 1)) (.cons (.append (.fld "Peak" (.v 0) "rows") (.bin .add (.bin .add (.ofL (.listOf (.v 5))) (.ofL (.comp [8] (.name 8) (.rng1 (.blt .len (.cons (.v 1) .nil))) .none (.blt .int (.cons (.cmp .eq (.v 8) (.v 4)) .nil))))) (.ofL (.disp (.cons (.v 6) .nil)))))
 (.cons (.append (.fld "Peak" (.v 0) "basis") (.bin .add (.v 3) (.v 4)))
 .nil)))
 (.cons (.append (.fld "Peak" (.v 0) "rows") (.bin .add (.bin .add (.ofL (.comp [7] (.name 7) (.seq (.v 2)) .none (.neg (.v 7)))) (.bin .mul (.ofL (.disp (.cons (.k (.int 0)) .nil))) (.blt .len (.cons (.v 1) .nil)))) (.ofL (.disp (.cons (.k (.int 0)) .nil)))))
 .nil))))))⟩
abbrev i_Peak__init_ : Nat := 56
def f_Peak_settle : Fn := ⟨13, 1, false, (.cons (.while_ (.k (.bl true)) (.cons (.asg (.name 1) (.ix (.fld "Peak" (.v 0) "rows") (.neg (.k (.int 1)))))
 (.cons (.asgL 2 false (.comp [11] (.name 11) (.rng1 (.bin .sub (.blt .len (.cons (.v 1) .nil)) (.k (.int 1)))) (.some (.cmp .lt (.ix (.v 1) (.v 11)) (.k (.int 0)))) (.v 11)))
 (.cons (.ife (.cmp .eq (.v 2) (.ofL (.disp .nil))) (.cons (.ret (.tup (.cons (.ix (.v 1) (.neg (.k (.int 1)))) (.cons (.fld "Peak" (.v 0) "bottom") .nil))))
 .nil) .nil)
 (.cons (.asg (.name 3) (.meth "Peak" "row_for" 59 (.v 0) (.cons (.ix (.v 2) (.k (.int 0))) .nil)))
 (.cons (.ife (.isN (.v 3)) (.cons (.ret (.k .non))
 .nil) .nil)
 (.cons (.asg (.tup (.cons (.name 5) (.cons (.name 6) .nil))) (.tup (.cons (.ix (.fld "Peak" (.v 0) "rows") (.v 3)) (.cons (.alloc (.disp .nil)) .nil))))
 (.cons (.asg (.name 4) (.ix (.v 5) (.ix (.v 2) (.k (.int 0)))))
 (.cons (.for_ (.tup (.cons (.name 7) (.cons (.name 8) .nil))) (.enum (.fld "Peak" (.v 0) "rows")) (.cons (.asg (.name 9) (.ix (.v 8) (.ix (.v 2) (.k (.int 0)))))
 (.cons (.asgL 10 false (.comp [12] (.name 12) (.rng1 (.blt .len (.cons (.v 8) .nil))) .none (.bin .fdiv (.bin .sub (.bin .mul (.ix (.v 8) (.v 12)) (.v 4)) (.bin .mul (.v 9) (.ix (.v 5) (.v 12)))) (.fld "Peak" (.v 0) "bottom"))))
 (.cons (.append (.v 6) (.ife (.cmp .eq (.v 7) (.v 3)) (.v 5) (.v 10)))
 .nil))))
 (.cons (.fld "Peak" (.v 0) "rows" (.v 6))
 (.cons (.fld "Peak" (.v 0) "bottom" (.v 4))
 (.cons (.asg (.sub (.fld "Peak" (.v 0) "basis") (.v 3)) (.ix (.v 2) (.k (.int 0))))
 .nil))))))))))))
 .nil)⟩
abbrev i_Peak_settle : Nat := 57
def f_Peak_point : Fn := ⟨7, 2, true, (.cons (.asg (.name 2) (.alloc (.rep (.ofL (.disp (.cons (.k (.int 0)) .nil))) (.v 1))))
 (.cons (.for_ (.tup (.cons (.name 5) (.cons (.name 6) .nil))) (.enum (.fld "Peak" (.v 0) "basis")) (.cons (.ife (.cmp .lt (.v 6) (.v 1)) (.cons (.asg (.sub (.v 2) (.v 6)) (.ix (.ix (.fld "Peak" (.v 0) "rows") (.v 5)) (.neg (.k (.int 1)))))
 .nil) .nil)
 .nil))
 (.cons (.asg (.name 3) (.k (.int 0)))
 (.cons (.for_ (.name 4) (.seq (.v 2)) (.cons (.asg (.name 3) (.call 0 (.cons (.v 3) (.cons (.v 4) .nil))))
 .nil))
 (.cons (.ret (.blt .tuple (.cons (.ofL (.comp [4] (.name 4) (.seq (.v 2)) .none (.bin .fdiv (.v 4) (.v 3)))) .nil)))
 .nil)))))⟩
abbrev i_Peak_point : Nat := 58
def f_Peak_row_for : Fn := ⟨6, 2, true, (.cons (.asg (.name 2) (.k .non))
 (.cons (.for_ (.tup (.cons (.name 3) (.cons (.name 4) .nil))) (.enum (.sl (.fld "Peak" (.v 0) "rows") .none (.some (.neg (.k (.int 1)))))) (.cons (.ife (.cmp .gt (.ix (.v 4) (.v 1)) (.k (.int 0))) (.cons (.ife (.isN (.v 2)) (.cons (.asg (.name 2) (.v 3))
 .nil) (.cons (.asg (.name 5) (.bin .sub (.bin .mul (.ix (.v 4) (.neg (.k (.int 1)))) (.ix (.ix (.fld "Peak" (.v 0) "rows") (.v 2)) (.v 1))) (.bin .mul (.ix (.ix (.fld "Peak" (.v 0) "rows") (.v 2)) (.neg (.k (.int 1)))) (.ix (.v 4) (.v 1)))))
 (.cons (.ife (.bop false (.cons (.cmp .lt (.v 5) (.k (.int 0))) (.cons (.bop true (.cons (.cmp .eq (.v 5) (.k (.int 0))) (.cons (.cmp .lt (.ix (.fld "Peak" (.v 0) "basis") (.v 3)) (.ix (.fld "Peak" (.v 0) "basis") (.v 2))) .nil))) .nil))) (.cons (.asg (.name 2) (.v 3))
 .nil) .nil)
 .nil)))
 .nil) .nil)
 .nil))
 (.cons (.ret (.v 2))
 .nil)))⟩
abbrev i_Peak_row_for : Nat := 59
def f_need_kind : Fn := ⟨1, 1, true, (.cons (.ife (.bop false (.cons (.not (.isi (.v 0) .str)) (.cons (.cmp .nin (.v 0) (.gt "KINDS" ["one", "sum", "both"])) .nil))) (.cons (.raise "InvalidKind")
 .nil) .nil)
 .nil)⟩
abbrev i_need_kind : Nat := 60
def f_lots_of : Fn := ⟨6, 2, true, (.cons (.ife (.cmp .eq (.v 1) (.k (.str "one"))) (.cons (.ret (.ofL (.comp [4] (.name 4) (.rng1 (.v 0)) .none (.tup (.cons (.v 4) .nil)))))
 .nil) .nil)
 (.cons (.asg (.name 2) (.ofL (.disp .nil)))
 (.cons (.for_ (.name 3) (.rng1 (.v 0)) (.cons (.asg (.name 2) (.bin .add (.v 2) (.ofL (.comp [5] (.name 5) (.rng1 (.v 0)) (.some (.cmp .lt (.v 3) (.v 5))) (.tup (.cons (.v 3) (.cons (.v 5) .nil)))))))
 .nil))
 (.cons (.ret (.v 2))
 .nil))))⟩
abbrev i_lots_of : Nat := 61
def f_told_by : Fn := ⟨6, 3, true, (.cons (.asg (.name 3) (.alloc (.listOf (.v 0))))
 (.cons (.for_ (.tup (.cons (.name 4) (.cons (.name 5) .nil))) (.enum (.v 1)) (.cons (.asg (.sub (.v 3) (.v 5)) (.ix (.v 2) (.v 4)))
 .nil))
 (.cons (.ret (.blt .tuple (.cons (.v 3) .nil)))
 .nil)))⟩
abbrev i_told_by : Nat := 62
def f_gains_by : Fn := ⟨12, 4, true, (.cons (.asg (.tup (.cons (.name 6) (.cons (.name 7) .nil))) (.call 15 (.cons (.v 0) (.cons (.v 1) .nil))))
 (.cons (.asg (.tup (.cons (.name 8) (.cons (.name 9) .nil))) (.call 15 (.cons (.v 0) (.cons (.call 62 (.cons (.v 1) (.cons (.v 2) (.cons (.v 3) .nil)))) .nil))))
 (.cons (.asg (.name 4) (.alloc (.disp .nil)))
 (.cons (.for_ (.name 5) (.seq (.v 2)) (.cons (.asg (.tup (.cons (.name 10) (.cons (.name 11) .nil))) (.tup (.cons (.blt .abs (.cons (.bin .sub (.bin .mul (.v 7) (.ix (.v 1) (.v 5))) (.v 6)) .nil)) (.cons (.blt .abs (.cons (.bin .sub (.bin .mul (.v 9) (.ix (.v 1) (.v 5))) (.v 8)) .nil)) .nil))))
 (.cons (.append (.v 4) (.bin .sub (.bin .mul (.v 10) (.v 9)) (.bin .mul (.v 11) (.v 7))))
 .nil)))
 (.cons (.ret (.v 4))
 .nil)))))⟩
abbrev i_gains_by : Nat := 63
def f_is_gain : Fn := ⟨3, 2, true, (.cons (.ret (.ife (.cmp .ne (.v 0) (.k (.str "both"))) (.cmp .gt (.blt .sum (.cons (.v 1) .nil)) (.k (.int 0))) (.blt .all (.cons (.ofL (.comp [2] (.name 2) (.seq (.v 1)) .none (.cmp .gt (.v 2) (.k (.int 0))))) .nil))))
 .nil)⟩
abbrev i_is_gain : Nat := 64
def f_numbers_of : Fn := ⟨8, 2, true, (.cons (.asg (.name 2) (.ofL (.disp (.cons (.tup .nil) .nil))))
 (.cons (.for_ (.name 3) (.rng1 (.bin .sub (.v 0) (.k (.int 1)))) (.cons (.asg (.name 4) (.ofL (.disp .nil)))
 (.cons (.for_ (.name 5) (.seq (.v 2)) (.cons (.asg (.name 6) (.bin .sub (.bin .sub (.v 1) (.blt .sum (.cons (.v 5) .nil))) (.bin .sub (.bin .sub (.v 0) (.k (.int 1))) (.v 3))))
 (.cons (.asg (.name 4) (.bin .add (.v 4) (.ofL (.comp [7] (.name 7) (.rng2 (.k (.int 1)) (.bin .add (.v 6) (.k (.int 1)))) .none (.bin .add (.v 5) (.tup (.cons (.v 7) .nil)))))))
 .nil)))
 (.cons (.asg (.name 2) (.v 4))
 .nil))))
 (.cons (.ret (.ofL (.comp [5] (.name 5) (.seq (.v 2)) .none (.bin .add (.v 5) (.tup (.cons (.bin .sub (.v 1) (.blt .sum (.cons (.v 5) .nil))) .nil))))))
 .nil)))⟩
abbrev i_numbers_of : Nat := 65
def f_first_lie : Fn := ⟨8, 5, true, (.cons (.for_ (.name 5) (.seq (.call 65 (.cons (.bin .add (.v 0) (.blt .len (.cons (.v 3) .nil))) (.cons (.v 4) .nil)))) (.cons (.asg (.tup (.cons (.name 6) (.cons (.name 7) .nil))) (.tup (.cons (.sl (.v 5) .none (.some (.v 0))) (.cons (.sl (.v 5) (.some (.v 0)) .none) .nil))))
 (.cons (.ife (.call 64 (.cons (.v 2) (.cons (.call 63 (.cons (.v 1) (.cons (.v 6) (.cons (.v 3) (.cons (.v 7) .nil))))) .nil))) (.cons (.ret (.ofL (.disp (.cons (.tup (.cons (.v 6) (.cons (.v 3) (.cons (.v 7) .nil)))) .nil))))
 .nil) .nil)
 .nil)))
 (.cons (.ret (.ofL (.disp .nil)))
 .nil))⟩
abbrev i_first_lie : Nat := 66
def f_moved : Fn := ⟨5, 2, true, (.cons (.asg (.name 2) (.alloc (.cat (.ofL (.listOf (.v 0))) (.bin .mul (.ofL (.disp (.cons (.k (.int 0)) .nil))) (.blt .len (.cons (.v 1) .nil))))))
 (.cons (.for_ (.tup (.cons (.name 3) (.cons (.name 4) .nil))) (.enum (.v 1)) (.cons (.asg (.sub (.v 2) (.bin .add (.blt .len (.cons (.v 0) .nil)) (.v 3))) (.ix (.v 0) (.v 4)))
 (.cons (.asg (.sub (.v 2) (.v 4)) (.k (.int 0)))
 .nil)))
 (.cons (.ret (.blt .tuple (.cons (.v 2) .nil)))
 .nil)))⟩
abbrev i_moved : Nat := 68
def f_way_signs : Fn := ⟨8, 1, true, (.cons (.asg (.name 1) (.ofL (.disp (.cons (.tup (.cons (.ofL (.disp .nil)) (.cons (.ofL (.disp .nil)) .nil))) .nil))))
 (.cons (.for_ (.name 2) (.seq (.v 0)) (.cons (.asg (.name 3) (.blt .tuple (.cons (.ofL (.comp [7] (.name 7) (.seq (.v 2)) .none (.neg (.v 7)))) .nil)))
 (.cons (.asg (.name 4) (.alloc (.disp .nil)))
 (.cons (.for_ (.tup (.cons (.name 5) (.cons (.name 6) .nil))) (.seq (.v 1)) (.cons (.append (.v 4) (.tup (.cons (.bin .add (.v 5) (.ofL (.disp (.cons (.v 2) .nil)))) (.cons (.bin .add (.v 6) (.ofL (.disp (.cons (.tup (.cons (.k (.str "least")) (.cons (.v 2) .nil))) .nil)))) .nil))))
 (.cons (.ife (.blt .any (.cons (.ofL (.comp [7] (.name 7) (.seq (.v 2)) .none (.cmp .ne (.v 7) (.k (.int 0))))) .nil)) (.cons (.append (.v 4) (.tup (.cons (.bin .add (.v 5) (.ofL (.disp (.cons (.v 3) .nil)))) (.cons (.bin .add (.v 6) (.ofL (.disp (.cons (.tup (.cons (.k (.str "more")) (.cons (.v 3) .nil))) .nil)))) .nil))))
 .nil) .nil)
 .nil)))
 (.cons (.asg (.name 1) (.v 4))
 .nil)))))
 (.cons (.ret (.v 1))
 .nil)))⟩
abbrev i_way_signs : Nat := 69
def f_way_rows : Fn := ⟨6, 4, true, (.cons (.asg (.name 4) (.blt .sum (.cons (.v 0) .nil)))
 (.cons (.ret (.ofL (.comp [5] (.name 5) (.seq (.v 1)) .none (.call 36 (.cons (.call 38 (.cons (.call 39 (.cons (.v 5) (.cons (.v 2) .nil))) (.cons (.v 4) .nil))) (.cons (.blt .tuple (.cons (.v 0) .nil)) .nil))))))
 .nil))⟩
abbrev i_way_rows : Nat := 70
def f_gain_lists : Fn := ⟨22, 3, true, (.cons (.asg (.tup (.cons (.name 5) (.cons (.name 6) .nil))) (.tup (.cons (.bin .add (.v 0) (.blt .len (.cons (.v 2) .nil))) (.cons (.alloc (.disp .nil)) .nil))))
 (.cons (.asg (.name 3) (.call 43 (.cons (.v 0) (.cons (.v 1) .nil))))
 (.cons (.asg (.name 4) (.bin .mul (.tup (.cons (.k (.int 0)) .nil)) (.blt .len (.cons (.v 2) .nil))))
 (.cons (.for_ (.tup (.cons (.name 7) (.cons (.name 8) .nil))) (.seq (.v 3)) (.cons (.asgL 9 false (.comp [16, 17] (.tup (.cons (.name 16) (.cons (.name 17) .nil))) (.seq (.v 8)) .none (.tup (.cons (.v 16) (.cons (.bin .add (.v 17) (.v 4)) .nil)))))
 (.cons (.asg (.name 10) (.call 69 (.cons (.call 70 (.cons (.bin .add (.v 7) (.v 4)) (.cons (.v 2) (.cons (.v 5) (.cons (.v 0) .nil))))) .nil)))
 (.cons (.for_ (.tup (.cons (.name 11) (.cons (.name 12) .nil))) (.seq (.v 3)) (.cons (.asg (.name 13) (.bin .add (.v 9) (.ofL (.comp [16, 17] (.tup (.cons (.name 16) (.cons (.name 17) .nil))) (.seq (.v 12)) .none (.tup (.cons (.v 16) (.cons (.call 68 (.cons (.v 17) (.cons (.v 2) .nil))) .nil)))))))
 (.cons (.for_ (.tup (.cons (.name 14) (.cons (.name 15) .nil))) (.seq (.v 10)) (.cons (.ife (.notN (.call 50 (.cons (.bin .add (.v 13) (.v 15)) (.cons (.v 5) .nil)))) (.cons (.for_ (.tup (.cons (.name 18) (.cons (.name 19) .nil))) (.seq (.call 69 (.cons (.call 70 (.cons (.call 68 (.cons (.v 11) (.cons (.v 2) .nil))) (.cons (.v 2) (.cons (.v 5) (.cons (.v 0) .nil))))) .nil))) (.cons (.asg (.name 20) (.alloc (.disp .nil)))
 (.cons (.for_ (.tup (.cons (.name 21) (.cons (.name 17) .nil))) (.enum (.v 14)) (.cons (.append (.v 20) (.call 36 (.cons (.call 38 (.cons (.v 17) (.cons (.blt .sum (.cons (.v 11) .nil)) .nil))) (.cons (.call 38 (.cons (.ix (.v 18) (.v 21)) (.cons (.blt .sum (.cons (.v 7) .nil)) .nil))) .nil))))
 .nil))
 (.cons (.append (.v 6) (.tup (.cons (.bin .add (.bin .add (.v 13) (.v 15)) (.v 19)) (.cons (.v 20) (.cons (.bin .mul (.blt .sum (.cons (.v 11) .nil)) (.blt .sum (.cons (.v 7) .nil))) .nil)))))
 .nil))))
 .nil) .nil)
 .nil))
 .nil)))
 .nil))))
 (.cons (.ret (.v 6))
 .nil)))))⟩
abbrev i_gain_lists : Nat := 71
def f_gain_conditions : Fn := ⟨4, 2, true, (.cons (.ife (.cmp .eq (.v 0) (.k (.str "both"))) (.cons (.ret (.ofL (.comp [3] (.name 3) (.seq (.v 1)) .none (.tup (.cons (.k (.str "more")) (.cons (.v 3) .nil))))))
 .nil) .nil)
 (.cons (.asg (.name 2) (.ix (.v 1) (.k (.int 0))))
 (.cons (.for_ (.name 3) (.seq (.sl (.v 1) (.some (.k (.int 1))) .none)) (.cons (.asg (.name 2) (.call 37 (.cons (.v 2) (.cons (.v 3) .nil))))
 .nil))
 (.cons (.ret (.ofL (.disp (.cons (.tup (.cons (.k (.str "more")) (.cons (.v 2) .nil))) .nil))))
 .nil))))⟩
abbrev i_gain_conditions : Nat := 72
def f_is_never : Fn := ⟨8, 3, true, (.cons (.ife (.notN (.call 67 (.cons (.v 0) (.cons (.v 1) (.cons (.v 2) .nil))))) (.cons (.ret (.k (.bl false)))
 .nil) .nil)
 (.cons (.asg (.name 3) (.bin .add (.v 0) (.ife (.cmp .eq (.v 2) (.k (.str "one"))) (.k (.int 1)) (.k (.int 2)))))
 (.cons (.for_ (.name 4) (.seq (.call 61 (.cons (.v 0) (.cons (.v 2) .nil)))) (.cons (.for_ (.tup (.cons (.name 5) (.cons (.name 6) (.cons (.name 7) .nil)))) (.seq (.call 71 (.cons (.v 0) (.cons (.v 1) (.cons (.v 4) .nil))))) (.cons (.ife (.notN (.call 50 (.cons (.bin .add (.v 5) (.call 72 (.cons (.v 2) (.cons (.v 6) .nil)))) (.cons (.v 3) .nil)))) (.cons (.ret (.k (.bl false)))
 .nil) .nil)
 .nil))
 .nil))
 (.cons (.ret (.k (.bl true)))
 .nil))))⟩
abbrev i_is_never : Nat := 74
def f_is_true : Fn := ⟨3, 3, true, (.cons (.expr (.call 3 (.cons (.v 0) .nil)))
 (.cons (.expr (.call 8 (.cons (.v 0) (.cons (.v 1) .nil))))
 (.cons (.expr (.call 60 (.cons (.v 2) .nil)))
 (.cons (.ret (.call 74 (.cons (.v 0) (.cons (.v 1) (.cons (.v 2) .nil)))))
 .nil))))⟩
abbrev i_is_true : Nat := 75
def f__law_gains : Fn := ⟨15, 2, true, (.cons (.asg (.tup (.cons (.name 5) (.cons (.name 6) (.cons (.name 7) .nil)))) (.v 1))
 (.cons (.asg (.name 2) (.alloc (.listOf (.v 5))))
 (.cons (.for_ (.tup (.cons (.name 8) (.cons (.name 4) .nil))) (.enum (.v 6)) (.cons (.asg (.sub (.v 2) (.v 4)) (.ix (.v 7) (.v 8)))
 .nil))
 (.cons (.asg (.tup (.cons (.tup (.cons (.name 11) (.cons (.name 12) .nil))) (.cons (.tup (.cons (.name 13) (.cons (.name 14) .nil))) .nil))) (.tup (.cons (.call 33 (.cons (.v 0) (.cons (.v 5) .nil))) (.cons (.call 33 (.cons (.v 0) (.cons (.v 2) .nil))) .nil))))
 (.cons (.asg (.name 3) (.alloc (.disp .nil)))
 (.cons (.for_ (.name 4) (.seq (.v 6)) (.cons (.asg (.name 9) (.bin .mul (.blt .abs (.cons (.bin .sub (.bin .mul (.ix (.v 5) (.v 4)) (.v 12)) (.v 11)) .nil)) (.v 14)))
 (.cons (.asg (.name 10) (.bin .mul (.blt .abs (.cons (.bin .sub (.bin .mul (.ix (.v 5) (.v 4)) (.v 14)) (.v 13)) .nil)) (.v 12)))
 (.cons (.append (.v 3) (.bin .sub (.v 9) (.v 10)))
 .nil))))
 (.cons (.ret (.v 3))
 .nil)))))))⟩
abbrev i__law_gains : Nat := 76
def f__law_is_gain : Fn := ⟨4, 3, true, (.cons (.asg (.name 3) (.call 76 (.cons (.v 1) (.cons (.v 2) .nil))))
 (.cons (.ret (.ife (.cmp .eq (.v 0) (.k (.str "both"))) (.cmp .gt (.blt .min (.cons (.v 3) .nil)) (.k (.int 0))) (.cmp .gt (.blt .sum (.cons (.v 3) .nil)) (.k (.int 0)))))
 .nil))⟩
abbrev i__law_is_gain : Nat := 77
def f__law_lots : Fn := ⟨6, 2, true, (.cons (.ife (.cmp .eq (.v 1) (.k (.str "one"))) (.cons (.ret (.ofL (.comp [4] (.name 4) (.rng1 (.v 0)) .none (.tup (.cons (.v 4) .nil)))))
 .nil) .nil)
 (.cons (.asg (.name 2) (.ofL (.disp .nil)))
 (.cons (.for_ (.name 3) (.rng1 (.v 0)) (.cons (.asg (.name 2) (.bin .add (.v 2) (.ofL (.comp [5] (.name 5) (.rng2 (.bin .add (.v 3) (.k (.int 1))) (.v 0)) .none (.tup (.cons (.v 3) (.cons (.v 5) .nil)))))))
 .nil))
 (.cons (.ret (.v 2))
 .nil))))⟩
abbrev i__law_lots : Nat := 78
def f__law_rows : Fn := ⟨5, 2, true, (.cons (.ife (.cmp .eq (.v 0) (.k (.int 1))) (.cons (.ret (.ife (.cmp .gt (.v 1) (.k (.int 0))) (.ofL (.disp (.cons (.tup (.cons (.v 1) .nil)) .nil))) (.ofL (.disp .nil))))
 .nil) .nil)
 (.cons (.asg (.name 2) (.ofL (.disp .nil)))
 (.cons (.for_ (.name 3) (.rng2 (.k (.int 1)) (.v 1)) (.cons (.asg (.name 2) (.bin .add (.v 2) (.ofL (.comp [4] (.name 4) (.seq (.call 79 (.cons (.bin .sub (.v 0) (.k (.int 1))) (.cons (.bin .sub (.v 1) (.v 3)) .nil)))) .none (.bin .add (.tup (.cons (.v 3) .nil)) (.v 4))))))
 .nil))
 (.cons (.ret (.v 2))
 .nil))))⟩
abbrev i__law_rows : Nat := 79
def f_greatest_gain : Fn := ⟨15, 2, true, (.cons (.expr (.call 3 (.cons (.v 0) .nil)))
 (.cons (.expr (.call 8 (.cons (.v 0) (.cons (.v 1) .nil))))
 (.cons (.asg (.tup (.cons (.name 3) (.cons (.name 4) .nil))) (.tup (.cons (.tup (.cons (.k (.int 0)) (.cons (.k (.int 1)) .nil))) (.cons (.bin .add (.v 0) (.k (.int 1))) .nil))))
 (.cons (.for_ (.name 2) (.seq (.call 61 (.cons (.v 0) (.cons (.k (.str "one")) .nil)))) (.cons (.for_ (.tup (.cons (.name 5) (.cons (.name 6) (.cons (.name 7) .nil)))) (.seq (.call 71 (.cons (.v 0) (.cons (.v 1) (.cons (.v 2) .nil))))) (.cons (.asgL 8 true (.comp [13, 14] (.tup (.cons (.name 13) (.cons (.name 14) .nil))) (.seq (.v 5)) .none (.tup (.cons (.blt .tuple (.cons (.ofL (.comp [9] (.name 9) (.seq (.v 14)) .none (.neg (.v 9)))) .nil)) (.cons (.k (.int 0)) .nil)))))
 (.cons (.for_ (.name 9) (.rng1 (.v 0)) (.cons (.for_ (.name 10) (.rng1 (.v 0)) (.cons (.ife (.cmp .ne (.v 9) (.v 10)) (.cons (.append (.v 8) (.tup (.cons (.call 38 (.cons (.call 36 (.cons (.call 39 (.cons (.v 9) (.cons (.v 4) .nil))) (.cons (.call 39 (.cons (.v 10) (.cons (.v 4) .nil))) .nil))) (.cons (.v 7) .nil))) (.cons (.k (.int 1)) .nil))))
 .nil) .nil)
 .nil))
 .nil))
 (.cons (.asg (.tup (.cons (.name 11) (.cons (.name 12) .nil))) (.meth "Peak" "settle" 57 (.make "Peak" 56 (.cons (.v 8) (.cons (.ix (.v 6) (.k (.int 0))) .nil))) .nil))
 (.cons (.ife (.cmp .gt (.bin .mul (.v 11) (.ix (.v 3) (.k (.int 1)))) (.bin .mul (.ix (.v 3) (.k (.int 0))) (.v 12))) (.cons (.asg (.name 3) (.tup (.cons (.v 11) (.cons (.v 12) .nil))))
 .nil) .nil)
 .nil)))))
 .nil))
 (.cons (.ret (.call 14 (.cons (.ix (.v 3) (.k (.int 0))) (.cons (.ix (.v 3) (.k (.int 1))) .nil))))
 .nil)))))⟩
abbrev i_greatest_gain : Nat := 81
def f_subsets_of : Fn := ⟨4, 1, true, (.cons (.asg (.name 1) (.ofL (.disp (.cons (.tup .nil) .nil))))
 (.cons (.for_ (.name 2) (.rng1 (.v 0)) (.cons (.asg (.name 1) (.bin .add (.v 1) (.ofL (.comp [3] (.name 3) (.seq (.v 1)) .none (.bin .add (.v 3) (.tup (.cons (.v 2) .nil)))))))
 .nil))
 (.cons (.ret (.sl (.ofL (.sorted (.v 1))) (.some (.k (.int 1))) .none))
 .nil)))⟩
abbrev i_subsets_of : Nat := 83
def f_are_apart : Fn := ⟨3, 2, true, (.cons (.ret (.not (.blt .any (.cons (.ofL (.comp [2] (.name 2) (.seq (.v 0)) .none (.bop false (.cons (.call 4 (.cons (.v 1) (.cons (.v 2) .nil))) (.cons (.call 4 (.cons (.v 2) (.cons (.v 1) .nil))) .nil))))) .nil))))
 .nil)⟩
abbrev i_are_apart : Nat := 84
def f_set_rules : Fn := ⟨4, 1, true, (.cons (.ife (.not (.call 2 (.cons (.v 0) (.cons (.k (.int 2)) (.cons (.k (.int 4)) .nil))))) (.cons (.raise "InvalidPeople")
 .nil) .nil)
 (.cons (.asg (.name 1) (.ofL (.disp (.cons (.tup .nil) .nil))))
 (.cons (.for_ (.name 2) (.seq (.call 83 (.cons (.v 0) .nil))) (.cons (.asg (.name 1) (.bin .add (.v 1) (.ofL (.comp [3] (.name 3) (.seq (.v 1)) (.some (.call 84 (.cons (.v 3) (.cons (.v 2) .nil)))) (.bin .add (.v 3) (.tup (.cons (.v 2) .nil)))))))
 .nil))
 (.cons (.ret (.blt .tuple (.cons (.ofL (.comp [3] (.name 3) (.seq (.sl (.ofL (.sorted (.v 1))) (.some (.k (.int 1))) .none)) .none (.tup (.cons (.k (.str "sets")) (.cons (.v 3) .nil))))) .nil)))
 .nil))))⟩
abbrev i_set_rules : Nat := 85
def f_is_fair : Fn := ⟨4, 2, true, (.cons (.for_ (.name 2) (.rng1 (.v 0)) (.cons (.for_ (.name 3) (.rng2 (.bin .add (.v 2) (.k (.int 1))) (.v 0)) (.cons (.ife (.cmp .ne (.call 86 (.cons (.v 1) (.cons (.v 2) (.cons (.v 3) .nil)))) (.v 1)) (.cons (.ret (.k (.bl false)))
 .nil) .nil)
 .nil))
 .nil))
 (.cons (.ret (.k (.bl true)))
 .nil))⟩
abbrev i_is_fair : Nat := 87
def f_turned_sets : Fn := ⟨7, 2, true, (.cons (.asgL 2 false (.comp [3] (.name 3) (.seq (.call 83 (.cons (.v 0) .nil))) (.some (.blt .all (.cons (.ofL (.comp [4] (.name 4) (.seq (.v 1)) .none (.blt .any (.cons (.ofL (.comp [5] (.name 5) (.seq (.v 4)) .none (.cmp .in_ (.v 5) (.v 3)))) .nil)))) .nil))) (.v 3)))
 (.cons (.ret (.blt .tuple (.cons (.ofL (.comp [3] (.name 3) (.seq (.v 2)) (.some (.not (.blt .any (.cons (.ofL (.comp [6] (.name 6) (.seq (.v 2)) .none (.bop true (.cons (.cmp .ne (.v 3) (.v 6)) (.cons (.call 4 (.cons (.v 6) (.cons (.v 3) .nil))) .nil))))) .nil)))) (.v 3))) .nil)))
 .nil))⟩
abbrev i_turned_sets : Nat := 88
def f_count_rules : Fn := ⟨6, 1, true, (.cons (.asgL 1 false (.comp [4] (.name 4) (.seq (.call 85 (.cons (.v 0) .nil))) .none (.ix (.v 4) (.k (.int 1)))))
 (.cons (.asgL 2 false (.comp [5] (.name 5) (.seq (.v 1)) (.some (.call 87 (.cons (.v 0) (.cons (.v 5) .nil)))) (.v 5)))
 (.cons (.asgL 3 false (.comp [5] (.name 5) (.seq (.v 1)) (.some (.cmp .eq (.call 88 (.cons (.v 0) (.cons (.v 5) .nil))) (.v 5))) (.v 5)))
 (.cons (.ret (.tup (.cons (.blt .len (.cons (.v 1) .nil)) (.cons (.blt .len (.cons (.v 2) .nil)) (.cons (.blt .len (.cons (.v 3) .nil)) .nil)))))
 .nil))))⟩
abbrev i_count_rules : Nat := 89
def f_unlike_lists : Fn := ⟨11, 3, true, (.cons (.asg (.tup (.cons (.name 3) (.cons (.name 4) .nil))) (.tup (.cons (.alloc (.disp .nil)) (.cons (.call 43 (.cons (.v 0) (.cons (.v 2) .nil))) .nil))))
 (.cons (.for_ (.tup (.cons (.name 5) (.cons (.name 6) .nil))) (.seq (.call 43 (.cons (.v 0) (.cons (.v 1) .nil)))) (.cons (.for_ (.tup (.cons (.name 7) (.cons (.name 8) .nil))) (.seq (.v 4)) (.cons (.asg (.name 9) (.call 36 (.cons (.call 38 (.cons (.v 5) (.cons (.blt .sum (.cons (.v 7) .nil)) .nil))) (.cons (.call 38 (.cons (.v 7) (.cons (.blt .sum (.cons (.v 5) .nil)) .nil))) .nil))))
 (.cons (.ife (.blt .any (.cons (.ofL (.comp [10] (.name 10) (.seq (.v 9)) .none (.cmp .ne (.v 10) (.k (.int 0))))) .nil)) (.cons (.append (.v 3) (.bin .add (.bin .add (.v 6) (.v 8)) (.ofL (.disp (.cons (.tup (.cons (.k (.str "more")) (.cons (.v 9) .nil))) .nil)))))
 (.cons (.append (.v 3) (.bin .add (.bin .add (.v 6) (.v 8)) (.ofL (.disp (.cons (.tup (.cons (.k (.str "more")) (.cons (.blt .tuple (.cons (.ofL (.comp [10] (.name 10) (.seq (.v 9)) .none (.neg (.v 10)))) .nil)) .nil))) .nil)))))
 .nil)) .nil)
 .nil)))
 .nil))
 (.cons (.ret (.v 3))
 .nil)))⟩
abbrev i_unlike_lists : Nat := 90
def f_is_unlike : Fn := ⟨7, 3, true, (.cons (.asg (.tup (.cons (.tup (.cons (.name 3) (.cons (.name 4) .nil))) (.cons (.tup (.cons (.name 5) (.cons (.name 6) .nil))) .nil))) (.tup (.cons (.call 15 (.cons (.v 0) (.cons (.v 2) .nil))) (.cons (.call 15 (.cons (.v 1) (.cons (.v 2) .nil))) .nil))))
 (.cons (.ret (.cmp .ne (.bin .mul (.v 3) (.v 6)) (.bin .mul (.v 5) (.v 4))))
 .nil))⟩
abbrev i_is_unlike : Nat := 92
def f_alike : Fn := ⟨3, 3, true, (.cons (.ret (.isN (.call 93 (.cons (.v 0) (.cons (.v 1) (.cons (.v 2) .nil))))))
 .nil)⟩
abbrev i_alike : Nat := 94
def f__law_exchanged : Fn := ⟨4, 3, true, (.cons (.asg (.name 3) (.alloc (.listOf (.v 2))))
 (.cons (.asg (.tup (.cons (.sub (.v 3) (.v 0)) (.cons (.sub (.v 3) (.v 1)) .nil))) (.tup (.cons (.ix (.v 2) (.v 1)) (.cons (.ix (.v 2) (.v 0)) .nil))))
 (.cons (.ret (.blt .tuple (.cons (.v 3) .nil)))
 .nil)))⟩
abbrev i__law_exchanged : Nat := 95
def f__law_is_fair : Fn := ⟨5, 3, true, (.cons (.for_ (.name 3) (.seq (.v 2)) (.cons (.for_ (.name 4) (.rng1 (.bin .sub (.v 0) (.k (.int 1)))) (.cons (.ife (.cmp .ne (.call 33 (.cons (.v 1) (.cons (.call 95 (.cons (.v 4) (.cons (.bin .add (.v 4) (.k (.int 1))) (.cons (.v 3) .nil)))) .nil))) (.call 33 (.cons (.v 1) (.cons (.v 3) .nil)))) (.cons (.ret (.k (.bl false)))
 .nil) .nil)
 .nil))
 .nil))
 (.cons (.ret (.k (.bl true)))
 .nil))⟩
abbrev i__law_is_fair : Nat := 96
def f__law_is_turning : Fn := ⟨5, 2, true, (.cons (.for_ (.name 2) (.seq (.v 1)) (.cons (.asg (.name 3) (.blt .tuple (.cons (.ofL (.comp [4] (.name 4) (.seq (.v 2)) .none (.bin .sub (.k (.int 9)) (.v 4)))) .nil)))
 (.cons (.ife (.cmp .ne (.ix (.call 33 (.cons (.v 0) (.cons (.v 3) .nil))) (.k (.int 0))) (.bin .sub (.k (.int 9)) (.ix (.call 33 (.cons (.v 0) (.cons (.v 2) .nil))) (.k (.int 0))))) (.cons (.ret (.k (.bl false)))
 .nil) .nil)
 .nil)))
 (.cons (.ret (.k (.bl true)))
 .nil))⟩
abbrev i__law_is_turning : Nat := 97
def f_need_goal : Fn := ⟨1, 1, true, (.cons (.ife (.bop false (.cons (.not (.isi (.v 0) .str)) (.cons (.cmp .nin (.v 0) (.gt "GOALS" ["sum", "longest"])) .nil))) (.cons (.raise "InvalidKind")
 .nil) .nil)
 .nil)⟩
abbrev i_need_goal : Nat := 99
def f_best_row : Fn := ⟨4, 2, true, (.cons (.asg (.name 2) (.blt .len (.cons (.v 1) .nil)))
 (.cons (.asg (.name 3) (.call 38 (.cons (.call 36 (.cons (.call 39 (.cons (.ix (.v 1) (.neg (.k (.int 1)))) (.cons (.v 2) .nil))) (.cons (.call 39 (.cons (.ix (.v 1) (.k (.int 0))) (.cons (.v 2) .nil))) .nil))) (.cons (.ife (.cmp .eq (.v 0) (.k (.str "sum"))) (.k (.int 2)) (.k (.int 1))) .nil))))
 (.cons (.ife (.bop true (.cons (.cmp .eq (.v 0) (.k (.str "sum"))) (.cons (.cmp .gt (.v 2) (.k (.int 3))) .nil))) (.cons (.asg (.name 3) (.call 37 (.cons (.v 3) (.cons (.call 38 (.cons (.call 36 (.cons (.call 39 (.cons (.ix (.v 1) (.neg (.k (.int 2)))) (.cons (.v 2) .nil))) (.cons (.call 39 (.cons (.ix (.v 1) (.k (.int 1))) (.cons (.v 2) .nil))) .nil))) (.cons (.k (.int 2)) .nil))) .nil))))
 .nil) .nil)
 (.cons (.ret (.v 3))
 .nil))))⟩
abbrev i_best_row : Nat := 100
def f_worst : Fn := ⟨20, 3, true, (.cons (.expr (.call 3 (.cons (.v 0) .nil)))
 (.cons (.expr (.call 8 (.cons (.v 0) (.cons (.v 1) .nil))))
 (.cons (.expr (.call 99 (.cons (.v 2) .nil)))
 (.cons (.asg (.name 3) (.tup (.cons (.k (.int 1)) (.cons (.k (.int 1)) .nil))))
 (.cons (.asg (.name 4) (.rngT (.v 0)))
 (.cons (.for_ (.tup (.cons (.name 5) (.cons (.name 6) .nil))) (.seq (.call 43 (.cons (.v 0) (.cons (.v 1) .nil)))) (.cons (.asg (.name 7) (.blt .sum (.cons (.v 5) .nil)))
 (.cons (.for_ (.name 8) (.seq (.call 40 (.cons (.v 0) .nil))) (.cons (.asgL 9 false (.comp [15, 16] (.tup (.cons (.name 15) (.cons (.name 16) .nil))) (.seq (.bin .add (.v 6) (.call 41 (.cons (.v 8) .nil)))) .none (.tup (.cons (.blt .tuple (.cons (.ofL (.comp [19] (.name 19) (.seq (.v 16)) .none (.neg (.v 19)))) .nil)) (.cons (.k (.int 0)) .nil)))))
 (.cons (.asg (.name 10) (.call 38 (.cons (.call 100 (.cons (.v 2) (.cons (.v 8) .nil))) (.cons (.v 7) .nil))))
 (.cons (.for_ (.tup (.cons (.name 11) (.cons (.name 12) .nil))) (.seq (.call 69 (.cons (.call 70 (.cons (.v 5) (.cons (.v 4) (.cons (.v 0) (.cons (.v 0) .nil))))) .nil))) (.cons (.asg (.name 13) (.bin .add (.bin .add (.v 9) (.ofL (.comp [15, 16] (.tup (.cons (.name 15) (.cons (.name 16) .nil))) (.seq (.v 12)) .none (.tup (.cons (.blt .tuple (.cons (.ofL (.comp [19] (.name 19) (.seq (.v 16)) .none (.neg (.v 19)))) .nil)) (.cons (.k (.int 0)) .nil)))))) (.ofL (.disp (.cons (.tup (.cons (.v 10) (.cons (.k (.int 1)) .nil))) .nil)))))
 (.cons (.for_ (.name 14) (.seq (.ife (.cmp .eq (.v 2) (.k (.str "longest"))) (.v 11) (.ofL (.disp (.cons (.call 102 (.cons (.v 11) .nil)) .nil))))) (.cons (.asg (.tup (.cons (.name 17) (.cons (.name 18) .nil))) (.meth "Peak" "settle" 57 (.make "Peak" 56 (.cons (.v 13) (.cons (.call 38 (.cons (.v 14) (.cons (.k (.int 2)) .nil))) .nil))) .nil))
 (.cons (.ife (.cmp .gt (.bin .mul (.v 17) (.ix (.v 3) (.k (.int 1)))) (.bin .mul (.ix (.v 3) (.k (.int 0))) (.v 18))) (.cons (.asg (.name 3) (.tup (.cons (.v 17) (.cons (.v 18) .nil))))
 .nil) .nil)
 .nil)))
 .nil)))
 .nil))))
 .nil)))
 (.cons (.ret (.call 14 (.cons (.ix (.v 3) (.k (.int 0))) (.cons (.ix (.v 3) (.k (.int 1))) .nil))))
 .nil)))))))⟩
abbrev i_worst : Nat := 101
def f_added : Fn := ⟨3, 1, true, (.cons (.asg (.name 1) (.ix (.v 0) (.k (.int 0))))
 (.cons (.for_ (.name 2) (.seq (.sl (.v 0) (.some (.k (.int 1))) .none)) (.cons (.asg (.name 1) (.call 37 (.cons (.v 1) (.cons (.v 2) .nil))))
 .nil))
 (.cons (.ret (.v 1))
 .nil)))⟩
abbrev i_added : Nat := 102
def f_best_of : Fn := ⟨4, 2, true, (.cons (.asg (.name 2) (.ofL (.sorted (.v 1))))
 (.cons (.ife (.cmp .eq (.v 0) (.k (.str "longest"))) (.cons (.ret (.bin .sub (.ix (.v 2) (.neg (.k (.int 1)))) (.ix (.v 2) (.k (.int 0)))))
 .nil) .nil)
 (.cons (.ret (.bin .mul (.k (.int 2)) (.blt .sum (.cons (.ofL (.comp [3] (.name 3) (.seq (.v 2)) .none (.blt .abs (.cons (.bin .sub (.v 3) (.ix (.v 2) (.bin .fdiv (.blt .len (.cons (.v 2) .nil)) (.k (.int 2))))) .nil)))) .nil))))
 .nil)))⟩
abbrev i_best_of : Nat := 103
def f_ratio : Fn := ⟨10, 4, true, (.cons (.expr (.call 16 (.cons (.v 0) (.cons (.v 1) (.cons (.v 2) .nil)))))
 (.cons (.expr (.call 99 (.cons (.v 3) .nil)))
 (.cons (.asg (.tup (.cons (.name 7) (.cons (.name 8) .nil))) (.call 15 (.cons (.v 1) (.cons (.v 2) .nil))))
 (.cons (.asgL 4 false (.comp [9] (.name 9) (.seq (.v 2)) .none (.bin .mul (.k (.int 2)) (.blt .abs (.cons (.bin .sub (.bin .mul (.v 8) (.v 9)) (.v 7)) .nil)))))
 (.cons (.asg (.name 5) (.bin .mul (.call 103 (.cons (.v 3) (.cons (.v 2) .nil))) (.v 8)))
 (.cons (.asg (.name 6) (.ife (.cmp .eq (.v 3) (.k (.str "sum"))) (.blt .sum (.cons (.v 4) .nil)) (.blt .max (.cons (.v 4) .nil))))
 (.cons (.ret (.ife (.cmp .gt (.v 5) (.k (.int 0))) (.call 14 (.cons (.v 6) (.cons (.v 5) .nil))) (.k .non)))
 .nil)))))))⟩
abbrev i_ratio : Nat := 104
def f__law_best : Fn := ⟨4, 2, true, (.cons (.asg (.name 2) (.ofL (.sorted (.v 1))))
 (.cons (.ife (.cmp .eq (.v 0) (.k (.str "longest"))) (.cons (.ret (.bin .sub (.ix (.v 2) (.neg (.k (.int 1)))) (.ix (.v 2) (.k (.int 0)))))
 .nil) .nil)
 (.cons (.ret (.bin .mul (.k (.int 2)) (.blt .sum (.cons (.ofL (.comp [3] (.name 3) (.seq (.v 2)) .none (.blt .abs (.cons (.bin .sub (.v 3) (.ix (.v 2) (.k (.int 1)))) .nil)))) .nil))))
 .nil)))⟩
abbrev i__law_best : Nat := 105
def f__law_own : Fn := ⟨7, 3, true, (.cons (.asg (.tup (.cons (.name 4) (.cons (.name 5) .nil))) (.call 33 (.cons (.v 0) (.cons (.v 2) .nil))))
 (.cons (.asgL 3 false (.comp [6] (.name 6) (.seq (.v 2)) .none (.bin .mul (.k (.int 2)) (.blt .abs (.cons (.bin .sub (.bin .mul (.v 6) (.v 5)) (.v 4)) .nil)))))
 (.cons (.ret (.tup (.cons (.ife (.cmp .eq (.v 1) (.k (.str "sum"))) (.blt .sum (.cons (.v 3) .nil)) (.blt .max (.cons (.v 3) .nil))) (.cons (.v 5) .nil))))
 .nil)))⟩
abbrev i__law_own : Nat := 106
def f_format_places : Fn := ⟨2, 2, true, (.cons (.expr (.call 3 (.cons (.v 0) .nil)))
 (.cons (.expr (.call 10 (.cons (.v 0) (.cons (.v 1) .nil))))
 (.cons (.ret (.call 107 (.cons (.v 1) .nil)))
 .nil)))⟩
abbrev i_format_places : Nat := 108
def f_count_true : Fn := ⟨7, 3, true, (.cons (.expr (.call 3 (.cons (.v 0) .nil)))
 (.cons (.ife (.bop false (.cons (.not (.isi (.v 1) .str)) (.cons (.cmp .nin (.v 1) (.tup (.cons (.k (.str "ranks")) (.cons (.k (.str "people")) .nil)))) .nil))) (.cons (.raise "InvalidKind")
 .nil) .nil)
 (.cons (.ife (.not (.call 2 (.cons (.v 2) (.cons (.k (.int 1)) (.cons (.k (.int 4)) .nil))))) (.cons (.raise "InvalidNumber")
 .nil) .nil)
 (.cons (.asg (.name 3) (.alloc (.disp (.cons (.k (.int 0)) (.cons (.k (.int 0)) (.cons (.k (.int 0)) .nil))))))
 (.cons (.for_ (.name 4) (.seq (.call 65 (.cons (.v 0) (.cons (.bin .add (.v 2) (.v 0)) .nil)))) (.cons (.asg (.name 5) (.tup (.cons (.v 1) (.cons (.blt .tuple (.cons (.ofL (.comp [6] (.name 6) (.seq (.v 4)) .none (.bin .sub (.v 6) (.k (.int 1))))) .nil)) .nil))))
 (.cons (.ife (.call 74 (.cons (.v 0) (.cons (.v 5) (.cons (.k (.str "one")) .nil)))) (.cons (.asg (.name 3) (.alloc (.disp (.cons (.bin .add (.ix (.v 3) (.k (.int 0))) (.k (.int 1))) (.cons (.bin .add (.ix (.v 3) (.k (.int 1))) (.blt .int (.cons (.call 74 (.cons (.v 0) (.cons (.v 5) (.cons (.k (.str "sum")) .nil)))) .nil))) (.cons (.ix (.v 3) (.k (.int 2))) .nil))))))
 (.cons (.asg (.sub (.v 3) (.k (.int 2))) (.bin .add (.ix (.v 3) (.k (.int 2))) (.blt .int (.cons (.call 74 (.cons (.v 0) (.cons (.v 5) (.cons (.k (.str "both")) .nil)))) .nil))))
 .nil)) .nil)
 .nil)))
 (.cons (.ret (.blt .tuple (.cons (.v 3) .nil)))
 .nil))))))⟩
abbrev i_count_true : Nat := 110
def f_Road__init_ : Fn := ⟨4, 4, false, (.cons (.expr (.call 3 (.cons (.v 1) .nil)))
 (.cons (.expr (.call 8 (.cons (.v 1) (.cons (.v 2) .nil))))
 (.cons (.expr (.call 10 (.cons (.v 1) (.cons (.v 3) .nil))))
 (.cons (.fld "Road" (.v 0) "rule" (.v 2))
 (.cons (.fld "Road" (.v 0) "rows" (.ofL (.disp (.cons (.v 3) .nil))))
 (.cons (.fld "Road" (.v 0) "undone" (.ofL (.disp .nil)))
 .nil))))))⟩
abbrev i_Road__init_ : Nat := 111
def f_Road_places : Fn := ⟨1, 1, true, (.cons (.ret (.ix (.fld "Road" (.v 0) "rows") (.neg (.k (.int 1)))))
 .nil)⟩
abbrev i_Road_places : Nat := 112
def f_Road_meeting : Fn := ⟨3, 1, true, (.cons (.asg (.tup (.cons (.name 1) (.cons (.name 2) .nil))) (.call 15 (.cons (.fld "Road" (.v 0) "rule") (.cons (.meth "Road" "places" 112 (.v 0) .nil) .nil))))
 (.cons (.ret (.call 14 (.cons (.v 1) (.cons (.v 2) .nil))))
 .nil))⟩
abbrev i_Road_meeting : Nat := 113
def f_Road_tell : Fn := ⟨5, 3, true, (.cons (.asg (.name 3) (.meth "Road" "places" 112 (.v 0) .nil))
 (.cons (.ife (.not (.call 2 (.cons (.v 1) (.cons (.k (.int 0)) (.cons (.bin .sub (.blt .len (.cons (.v 3) .nil)) (.k (.int 1))) .nil))))) (.cons (.raise "InvalidPeople")
 .nil) .nil)
 (.cons (.ife (.not (.call 2 (.cons (.v 2) (.cons (.k (.int 1)) (.cons (.gi "MOST_PLACE" 1000000) .nil))))) (.cons (.raise "InvalidPlaces")
 .nil) .nil)
 (.cons (.asg (.name 4) (.meth "Road" "meeting" 113 (.v 0) .nil))
 (.cons (.fld "Road" (.v 0) "rows" (.bin .add (.fld "Road" (.v 0) "rows") (.ofL (.disp (.cons (.bin .add (.bin .add (.sl (.v 3) .none (.some (.v 1))) (.tup (.cons (.v 2) .nil))) (.sl (.v 3) (.some (.bin .add (.v 1) (.k (.int 1)))) .none)) .nil)))))
 (.cons (.fld "Road" (.v 0) "undone" (.ofL (.disp .nil)))
 (.cons (.ret (.cmp .ne (.meth "Road" "meeting" 113 (.v 0) .nil) (.v 4)))
 .nil)))))))⟩
abbrev i_Road_tell : Nat := 114
def f_Road_undo : Fn := ⟨1, 1, true, (.cons (.ife (.cmp .eq (.blt .len (.cons (.fld "Road" (.v 0) "rows") .nil)) (.k (.int 1))) (.cons (.raise "NothingToUndo")
 .nil) .nil)
 (.cons (.fld "Road" (.v 0) "undone" (.bin .add (.fld "Road" (.v 0) "undone") (.ofL (.disp (.cons (.ix (.fld "Road" (.v 0) "rows") (.neg (.k (.int 1)))) .nil)))))
 (.cons (.fld "Road" (.v 0) "rows" (.sl (.fld "Road" (.v 0) "rows") .none (.some (.neg (.k (.int 1))))))
 (.cons (.ret (.meth "Road" "places" 112 (.v 0) .nil))
 .nil))))⟩
abbrev i_Road_undo : Nat := 115
def f_Road_redo : Fn := ⟨1, 1, true, (.cons (.ife (.cmp .eq (.fld "Road" (.v 0) "undone") (.ofL (.disp .nil))) (.cons (.raise "NothingToUndo")
 .nil) .nil)
 (.cons (.fld "Road" (.v 0) "rows" (.bin .add (.fld "Road" (.v 0) "rows") (.ofL (.disp (.cons (.ix (.fld "Road" (.v 0) "undone") (.neg (.k (.int 1)))) .nil)))))
 (.cons (.fld "Road" (.v 0) "undone" (.sl (.fld "Road" (.v 0) "undone") .none (.some (.neg (.k (.int 1))))))
 (.cons (.ret (.meth "Road" "places" 112 (.v 0) .nil))
 .nil))))⟩
abbrev i_Road_redo : Nat := 116
def f_Road__len_ : Fn := ⟨1, 1, true, (.cons (.ret (.blt .len (.cons (.sl (.fld "Road" (.v 0) "rows") (.some (.k (.int 1))) .none) .nil)))
 .nil)⟩
abbrev i_Road__len_ : Nat := 117
def f_Road__eq_ : Fn := ⟨2, 2, true, (.cons (.ret (.bop true (.cons (.isC "Road" (.v 1)) (.cons (.cmp .eq (.fld "Road" (.v 0) "rule") (.fld "Road" (.v 1) "rule")) (.cons (.cmp .eq (.fld "Road" (.v 0) "rows") (.fld "Road" (.v 1) "rows")) .nil)))))
 .nil)⟩
abbrev i_Road__eq_ : Nat := 118
def f__law_end : Fn := ⟨7, 5, true, (.cons (.for_ (.name 5) (.seq (.ofL (.disp (.cons (.k .non) (.cons (.k (.int 0)) (.cons (.neg (.k (.int 1))) (.cons (.bin .add (.bin .pow (.k (.int 10)) (.k (.int 6))) (.k (.int 1))) (.cons (.k (.bl true)) (.cons (.k (.str "1")) (.cons (.tup (.cons (.k (.int 1)) .nil)) .nil)))))))))) (.cons (.ife (.cmp .ne (.told (.meth "Road" "tell" 114 (.v 0) (.cons (.k (.int 0)) (.cons (.v 5) .nil)))) (.tup (.cons (.k (.str "error")) (.cons (.k (.str "InvalidPlaces")) .nil)))) (.cons (.ret (.k (.bl false)))
 .nil) .nil)
 .nil))
 (.cons (.for_ (.name 5) (.seq (.ofL (.disp (.cons (.neg (.k (.int 1))) (.cons (.v 1) (.cons (.k .non) (.cons (.k (.bl true)) (.cons (.k (.str "0")) .nil)))))))) (.cons (.ife (.cmp .ne (.told (.meth "Road" "tell" 114 (.v 0) (.cons (.v 5) (.cons (.k (.int 1)) .nil)))) (.tup (.cons (.k (.str "error")) (.cons (.k (.str "InvalidPeople")) .nil)))) (.cons (.ret (.k (.bl false)))
 .nil) .nil)
 .nil))
 (.cons (.ife (.bop false (.cons (.cmp .ne (.meth "Road" "places" 112 (.v 0) .nil) (.ix (.v 4) (.neg (.k (.int 1))))) (.cons (.cmp .ne (.lenO "Road" 117 (.v 0)) (.bin .sub (.blt .len (.cons (.v 4) .nil)) (.k (.int 1)))) (.cons (.eqO "Road" 118 (.v 0) (.k (.int 5))) .nil)))) (.cons (.ret (.k (.bl false)))
 .nil) .nil)
 (.cons (.asg (.name 6) (.make "Road" 111 (.cons (.v 1) (.cons (.v 2) (.cons (.v 3) .nil)))))
 (.cons (.ife (.bop false (.cons (.cmp .ne (.eqO "Road" 118 (.v 0) (.v 6)) (.cmp .eq (.blt .len (.cons (.v 4) .nil)) (.k (.int 1)))) (.cons (.eqO "Road" 118 (.v 6) (.make "Road" 111 (.cons (.v 1) (.cons (.tup (.cons (.k (.str "people")) (.cons (.bin .mul (.tup (.cons (.k (.int 8)) .nil)) (.v 1)) .nil))) (.cons (.v 3) .nil))))) .nil))) (.cons (.ret (.k (.bl false)))
 .nil) .nil)
 (.cons (.ife (.cmp .ne (.told (.make "Road" 111 (.cons (.v 1) (.cons (.v 2) (.cons (.k .non) .nil))))) (.tup (.cons (.k (.str "error")) (.cons (.k (.str "InvalidPlaces")) .nil)))) (.cons (.ret (.k (.bl false)))
 .nil) .nil)
 (.cons (.ret (.cmp .eq (.told (.make "Road" 111 (.cons (.v 1) (.cons (.k (.str "end")) (.cons (.v 3) .nil))))) (.tup (.cons (.k (.str "error")) (.cons (.k (.str "InvalidRule")) .nil)))))
 .nil)))))))⟩
abbrev i__law_end : Nat := 119
def f__law_alone : Fn := ⟨4, 2, true, (.cons (.asg (.name 2) (.ofL (.disp (.cons (.isC "InvalidPeople" (.v 0)) (.cons (.isC "InvalidRule" (.v 0)) (.cons (.isC "InvalidPlaces" (.v 0)) .nil))))))
 (.cons (.asg (.name 2) (.bin .add (.v 2) (.ofL (.disp (.cons (.isC "InvalidKind" (.v 0)) (.cons (.isC "InvalidNumber" (.v 0)) (.cons (.isC "InvalidText" (.v 0)) .nil)))))))
 (.cons (.asg (.name 2) (.bin .add (.v 2) (.ofL (.disp (.cons (.isC "NothingToUndo" (.v 0)) .nil)))))
 (.cons (.ret (.bop true (.cons (.isi (.v 0) (.cls "ValueError")) (.cons (.cmp .eq (.v 2) (.ofL (.comp [3] (.name 3) (.rng1 (.k (.int 7))) .none (.cmp .eq (.v 3) (.v 1))))) .nil))))
 .nil))))⟩
abbrev i__law_alone : Nat := 121
def f__law_least : Fn := ⟨12, 2, true, (.cons (.asg (.name 2) (.ix (.ofL (.disp (.cons (.k (.str "one")) (.cons (.k (.str "one")) (.cons (.k (.str "sum")) (.cons (.k (.str "both")) .nil)))))) (.call 21 (.cons (.v 0) (.cons (.k (.int 4)) .nil)))))
 (.cons (.asg (.name 3) (.ife (.cmp .eq (.v 2) (.k (.str "one"))) (.call 26 (.cons (.v 0) (.cons (.v 1) .nil))) (.tup (.cons (.k (.str "people")) (.cons (.bin .add (.tup (.cons (.k (.int 1)) .nil)) (.call 25 (.cons (.v 0) (.cons (.bin .sub (.v 1) (.k (.int 1))) (.cons (.k (.int 2)) .nil))))) .nil)))))
 (.cons (.asg (.name 4) (.call 73 (.cons (.v 1) (.cons (.v 3) (.cons (.v 2) .nil)))))
 (.cons (.ife (.isN (.v 4)) (.cons (.ret (.k (.bl true)))
 .nil) .nil)
 (.cons (.asg (.tup (.cons (.name 6) (.cons (.name 7) (.cons (.name 8) .nil)))) (.v 4))
 (.cons (.asg (.tup (.cons (.name 9) (.cons (.name 10) .nil))) (.tup (.cons (.bin .add (.k (.int 2)) (.call 21 (.cons (.v 0) (.cons (.k (.int 9)) .nil)))) (.cons (.call 21 (.cons (.v 0) (.cons (.k (.int 50)) .nil))) .nil))))
 (.cons (.asg (.name 5) (.tup (.cons (.blt .tuple (.cons (.ofL (.comp [11] (.name 11) (.seq (.v 6)) .none (.bin .add (.bin .mul (.v 9) (.v 11)) (.v 10)))) .nil)) (.cons (.v 7) (.cons (.blt .tuple (.cons (.ofL (.comp [11] (.name 11) (.seq (.v 8)) .none (.bin .add (.bin .mul (.v 9) (.v 11)) (.v 10)))) .nil)) .nil)))))
 (.cons (.ife (.bop false (.cons (.not (.call 77 (.cons (.v 2) (.cons (.v 3) (.cons (.v 5) .nil))))) (.cons (.cmp .ne (.blt .min (.cons (.bin .add (.v 6) (.v 8)) .nil)) (.k (.int 1))) .nil))) (.cons (.ret (.k (.bl false)))
 .nil) .nil)
 (.cons (.ret (.bop true (.cons (.cmp .eq (.blt .len (.cons (.v 7) .nil)) (.ife (.cmp .eq (.v 2) (.k (.str "one"))) (.k (.int 1)) (.k (.int 2)))) (.cons (.cmp .eq (.ofL (.listOf (.v 7))) (.ofL (.sortedSet (.v 7)))) .nil))))
 .nil)))))))))⟩
abbrev i__law_least : Nat := 122
def f__law_sets : Fn := ⟨4, 2, true, (.cons (.asg (.name 2) (.call 24 (.cons (.v 1) .nil)))
 (.cons (.asg (.name 3) (.tup (.cons (.k (.str "sets")) (.cons (.ix (.v 2) (.call 21 (.cons (.v 0) (.cons (.blt .len (.cons (.v 2) .nil)) .nil)))) .nil))))
 (.cons (.ret (.bop true (.cons (.isN (.call 73 (.cons (.v 1) (.cons (.v 3) (.cons (.k (.str "one")) .nil))))) (.cons (.cmp .eq (.call 81 (.cons (.v 1) (.cons (.v 3) .nil))) (.tup (.cons (.k (.int 0)) (.cons (.k (.int 1)) .nil)))) .nil))))
 .nil)))⟩
abbrev i__law_sets : Nat := 123
def f__law_alike : Fn := ⟨7, 2, true, (.cons (.asg (.tup (.cons (.name 2) (.cons (.name 3) .nil))) (.tup (.cons (.bin .add (.k (.int 2)) (.call 21 (.cons (.v 0) (.cons (.k (.int 3)) .nil)))) (.cons (.call 25 (.cons (.v 0) (.cons (.v 1) (.cons (.k (.int 2)) .nil)))) .nil))))
 (.cons (.asg (.tup (.cons (.name 4) (.cons (.name 5) .nil))) (.tup (.cons (.tup (.cons (.k (.str "ranks")) (.cons (.v 3) .nil))) (.cons (.tup (.cons (.k (.str "ranks")) (.cons (.blt .tuple (.cons (.ofL (.comp [6] (.name 6) (.seq (.v 3)) .none (.bin .mul (.v 2) (.v 6)))) .nil)) .nil))) .nil))))
 (.cons (.ife (.cmp .ne (.call 81 (.cons (.v 1) (.cons (.v 4) .nil))) (.call 81 (.cons (.v 1) (.cons (.v 5) .nil)))) (.cons (.ret (.k (.bl false)))
 .nil) .nil)
 (.cons (.ife (.cmp .ne (.call 101 (.cons (.v 1) (.cons (.v 4) (.cons (.k (.str "sum")) .nil)))) (.call 101 (.cons (.v 1) (.cons (.v 5) (.cons (.k (.str "sum")) .nil))))) (.cons (.ret (.k (.bl false)))
 .nil) .nil)
 (.cons (.ife (.cmp .ne (.call 101 (.cons (.v 1) (.cons (.v 4) (.cons (.k (.str "longest")) .nil)))) (.call 101 (.cons (.v 1) (.cons (.v 5) (.cons (.k (.str "longest")) .nil))))) (.cons (.ret (.k (.bl false)))
 .nil) .nil)
 (.cons (.ret (.cmp .eq (.call 73 (.cons (.v 1) (.cons (.v 4) (.cons (.k (.str "one")) .nil)))) (.call 73 (.cons (.v 1) (.cons (.v 5) (.cons (.k (.str "one")) .nil))))))
 .nil))))))⟩
abbrev i__law_alike : Nat := 124
def f__law_gain_of : Fn := ⟨4, 2, true, (.cons (.asgL 2 false (.comp [3] (.name 3) (.seq (.v 1)) (.some (.cmp .gt (.ix (.v 0) (.v 3)) (.k (.int 0)))) (.ix (.v 0) (.v 3))))
 (.cons (.ife (.bop false (.cons (.cmp .eq (.v 2) (.ofL (.disp .nil))) (.cons (.cmp .eq (.blt .max (.cons (.v 0) .nil)) (.blt .sum (.cons (.v 0) .nil))) .nil))) (.cons (.ret (.tup (.cons (.k (.int 0)) (.cons (.k (.int 1)) .nil))))
 .nil) .nil)
 (.cons (.ret (.call 34 (.cons (.bin .sub (.blt .sum (.cons (.v 0) .nil)) (.blt .min (.cons (.v 2) .nil))) (.cons (.blt .sum (.cons (.v 0) .nil)) .nil))))
 .nil)))⟩
abbrev i__law_gain_of : Nat := 125
def f__law_crossing : Fn := ⟨9, 2, true, (.cons (.asg (.name 2) (.ofL (.disp (.cons (.tup .nil) .nil))))
 (.cons (.for_ (.name 3) (.rng1 (.v 0)) (.cons (.asg (.name 2) (.bin .add (.v 2) (.ofL (.comp [6] (.name 6) (.seq (.v 2)) .none (.bin .add (.v 6) (.tup (.cons (.v 3) .nil)))))))
 .nil))
 (.cons (.asgL 4 false (.comp [6] (.name 6) (.seq (.ofL (.sorted (.v 2)))) (.some (.blt .all (.cons (.ofL (.comp [7] (.name 7) (.seq (.v 1)) .none (.blt .any (.cons (.ofL (.comp [3] (.name 3) (.seq (.v 7)) .none (.cmp .in_ (.v 3) (.v 6)))) .nil)))) .nil))) (.v 6)))
 (.cons (.asg (.name 5) (.alloc (.disp .nil)))
 (.cons (.for_ (.name 6) (.seq (.v 4)) (.cons (.ife (.not (.blt .any (.cons (.ofL (.comp [8] (.name 8) (.seq (.v 4)) .none (.bop true (.cons (.cmp .ne (.v 8) (.v 6)) (.cons (.call 23 (.cons (.v 8) (.cons (.v 6) .nil))) .nil))))) .nil))) (.cons (.append (.v 5) (.v 6))
 .nil) .nil)
 .nil))
 (.cons (.ret (.blt .tuple (.cons (.v 5) .nil)))
 .nil))))))⟩
abbrev i__law_crossing : Nat := 127
def f__law_renamed : Fn := ⟨5, 2, true, (.cons (.ife (.cmp .eq (.ix (.v 0) (.k (.int 0))) (.k (.str "people"))) (.cons (.ret (.tup (.cons (.k (.str "people")) (.cons (.blt .tuple (.cons (.ofL (.comp [2] (.name 2) (.rng1 (.blt .len (.cons (.v 1) .nil))) .none (.ix (.ix (.v 0) (.k (.int 1))) (.idx (.v 1) (.v 2))))) .nil)) .nil))))
 .nil) .nil)
 (.cons (.ife (.cmp .eq (.ix (.v 0) (.k (.int 0))) (.k (.str "sets"))) (.cons (.ret (.tup (.cons (.k (.str "sets")) (.cons (.blt .tuple (.cons (.ofL (.sorted (.ofL (.comp [3] (.name 3) (.seq (.ix (.v 0) (.k (.int 1)))) .none (.blt .tuple (.cons (.ofL (.sorted (.ofL (.comp [4] (.name 4) (.seq (.v 3)) .none (.ix (.v 1) (.v 4)))))) .nil)))))) .nil)) .nil))))
 .nil) .nil)
 (.cons (.ret (.v 0))
 .nil)))⟩
abbrev i__law_renamed : Nat := 128
def f__law_whole : Fn := ⟨1, 1, true, (.cons (.ret (.ife (.isN (.v 0)) (.k .non) (.bin .add (.blt .sum (.cons (.ix (.v 0) (.k (.int 0))) .nil)) (.blt .sum (.cons (.ix (.v 0) (.k (.int 2))) .nil)))))
 .nil)⟩
abbrev i__law_whole : Nat := 129
def f__law_ways_after : Fn := ⟨7, 4, true, (.cons (.asg (.tup (.cons (.name 4) (.cons (.name 5) .nil))) (.call 17 (.cons (.v 0) (.cons (.v 1) (.cons (.blt .tuple (.cons (.v 3) .nil)) .nil)))))
 (.cons (.ret (.ofL (.comp [6] (.name 6) (.seq (.v 2)) .none (.tup (.cons (.blt .abs (.cons (.bin .sub (.bin .mul (.v 6) (.v 5)) (.v 4)) .nil)) (.cons (.v 5) .nil))))))
 .nil))⟩
abbrev i__law_ways_after : Nat := 130
def fs : List (Option Fn) := [some f_divisor, some f_worth, some f_is_whole, some f_need_people, some f_within, some f_is_sets, some f_is_shares, some f_is_rule_for, some f_need_rule, some f_is_places_for, some f_need_places, some f_order_of, some f_end_of, some f_shares_of, some f_lowest, some f_meeting_of, some f_need_all, some f_meeting, some f_ways, some f__law_cell, some f__law_drawn, some f__law_roll, some f__law_rounds, some f__law_inside, some f__law_antichains, some f__law_shares, some f__law_rule, some f__law_places, none, some f_is_rule, some f_is_places, none, none, some f__law_meeting, some f__law_fraction, some f__law_refused, some f_minus, some f_plus, some f_times, some f_unit, some f_orders_of, some f_order_conditions, some f_end_cones, some f_cones_of, some f_Table__init_, some f_Table_gains, some f_Table_exchange, some f_Table_settle, some f_Table_row_for, some f_sums_of, some f_point_for, some f_unit_row, some f_is_open, some f_rest_of, some f_first_whole, some f_least_in, some f_Peak__init_, some f_Peak_settle, some f_Peak_point, some f_Peak_row_for, some f_need_kind, some f_lots_of, some f_told_by, some f_gains_by, some f_is_gain, some f_numbers_of, some f_first_lie, none, some f_moved, some f_way_signs, some f_way_rows, some f_gain_lists, some f_gain_conditions, none, some f_is_never, some f_is_true, some f__law_gains, some f__law_is_gain, some f__law_lots, some f__law_rows, none, some f_greatest_gain, none, some f_subsets_of, some f_are_apart, some f_set_rules, none, some f_is_fair, some f_turned_sets, some f_count_rules, some f_unlike_lists, none, some f_is_unlike, none, some f_alike, some f__law_exchanged, some f__law_is_fair, some f__law_is_turning, none, some f_need_goal, some f_best_row, some f_worst, some f_added, some f_best_of, some f_ratio, some f__law_best, some f__law_own, none, some f_format_places, none, some f_count_true, some f_Road__init_, some f_Road_places, some f_Road_meeting, some f_Road_tell, some f_Road_undo, some f_Road_redo, some f_Road__len_, some f_Road__eq_, some f__law_end, none, some f__law_alone, some f__law_least, some f__law_sets, some f__law_alike, some f__law_gain_of, none, some f__law_crossing, some f__law_renamed, some f__law_whole, some f__law_ways_after]
end U

namespace K12
open PySem Rf
abbrev R : PySem.W.OpenRow := PySem.W.OpenLaw.row PySem.Challenge.rw_meetcones_k12_whole_two_roads
def top (i : Nat) : Stmt := R.prog.main.body.getD i (.Pass ⟨0, 0, 0, 0⟩)
def inCls (s : Stmt) (i : Nat) : Stmt := match s with
  | .ClassDef _ _ _ body .. => body.getD i (.Pass ⟨0, 0, 0, 0⟩)
  | _ => .Pass ⟨0, 0, 0, 0⟩
def n_divisor : List String := ["one", "other"]
abbrev f_divisor : Fn := U.f_divisor
def d_divisor : Def := ⟨"divisor", "divisor", none, ["one", "other"], n_divisor.map Str.ofString, L2.defArgs (top 10), L2.defBody (top 10), L2.defScope (top 10), false, f_divisor⟩
abbrev i_divisor : Nat := 0
def n_worth : List String := ["row", "lengths", "at", "one"]
abbrev f_worth : Fn := U.f_worth
def d_worth : Def := ⟨"worth", "worth", none, ["row", "lengths"], n_worth.map Str.ofString, L2.defArgs (top 11), L2.defBody (top 11), L2.defScope (top 11), false, f_worth⟩
abbrev i_worth : Nat := 1
def n_is_whole : List String := ["value", "low", "high"]
abbrev f_is_whole : Fn := U.f_is_whole
def d_is_whole : Def := ⟨"is_whole", "is_whole", none, ["value", "low", "high"], n_is_whole.map Str.ofString, L2.defArgs (top 14), L2.defBody (top 14), L2.defScope (top 14), false, f_is_whole⟩
abbrev i_is_whole : Nat := 2
def n_need_people : List String := ["people"]
abbrev f_need_people : Fn := U.f_need_people
def d_need_people : Def := ⟨"need_people", "need_people", none, ["people"], n_need_people.map Str.ofString, L2.defArgs (top 15), L2.defBody (top 15), L2.defScope (top 15), false, f_need_people⟩
abbrev i_need_people : Nat := 3
def n_within : List String := ["one", "other", "person"]
abbrev f_within : Fn := U.f_within
def d_within : Def := ⟨"within", "within", none, ["one", "other"], n_within.map Str.ofString, L2.defArgs (top 16), L2.defBody (top 16), L2.defScope (top 16), false, f_within⟩
abbrev i_within : Nat := 4
def n_is_sets : List String := ["value", "people", "one", "other", "person"]
abbrev f_is_sets : Fn := U.f_is_sets
def d_is_sets : Def := ⟨"is_sets", "is_sets", none, ["value", "people"], n_is_sets.map Str.ofString, L2.defArgs (top 17), L2.defBody (top 17), L2.defScope (top 17), false, f_is_sets⟩
abbrev i_is_sets : Nat := 5
def n_is_shares : List String := ["value", "people", "one"]
abbrev f_is_shares : Fn := U.f_is_shares
def d_is_shares : Def := ⟨"is_shares", "is_shares", none, ["value", "people"], n_is_shares.map Str.ofString, L2.defArgs (top 18), L2.defBody (top 18), L2.defScope (top 18), false, f_is_shares⟩
abbrev i_is_shares : Nat := 6
def n_is_rule_for : List String := ["value", "people"]
abbrev f_is_rule_for : Fn := U.f_is_rule_for
def d_is_rule_for : Def := ⟨"is_rule_for", "is_rule_for", none, ["value", "people"], n_is_rule_for.map Str.ofString, L2.defArgs (top 19), L2.defBody (top 19), L2.defScope (top 19), false, f_is_rule_for⟩
abbrev i_is_rule_for : Nat := 7
def n_need_rule : List String := ["people", "rule"]
abbrev f_need_rule : Fn := U.f_need_rule
def d_need_rule : Def := ⟨"need_rule", "need_rule", none, ["people", "rule"], n_need_rule.map Str.ofString, L2.defArgs (top 20), L2.defBody (top 20), L2.defScope (top 20), false, f_need_rule⟩
abbrev i_need_rule : Nat := 8
def n_is_places_for : List String := ["value", "people", "one"]
abbrev f_is_places_for : Fn := U.f_is_places_for
def d_is_places_for : Def := ⟨"is_places_for", "is_places_for", none, ["value", "people"], n_is_places_for.map Str.ofString, L2.defArgs (top 21), L2.defBody (top 21), L2.defScope (top 21), false, f_is_places_for⟩
abbrev i_is_places_for : Nat := 9
def n_need_places : List String := ["people", "places"]
abbrev f_need_places : Fn := U.f_need_places
def d_need_places : Def := ⟨"need_places", "need_places", none, ["people", "places"], n_need_places.map Str.ofString, L2.defArgs (top 22), L2.defBody (top 22), L2.defScope (top 22), false, f_need_places⟩
abbrev i_need_places : Nat := 10
def n_order_of : List String := ["places", "place", "person"]
abbrev f_order_of : Fn := U.f_order_of
def d_order_of : Def := ⟨"order_of", "order_of", none, ["places"], n_order_of.map Str.ofString, L2.defArgs (top 23), L2.defBody (top 23), L2.defScope (top 23), false, f_order_of⟩
abbrev i_order_of : Nat := 11
def n_end_of : List String := ["places", "order", "low", "middle", "high"]
abbrev f_end_of : Fn := U.f_end_of
def d_end_of : Def := ⟨"end_of", "end_of", none, ["places"], n_end_of.map Str.ofString, L2.defArgs (top 24), L2.defBody (top 24), L2.defScope (top 24), false, f_end_of⟩
abbrev i_end_of : Nat := 12
def n_shares_of : List String := ["rule", "places", "order", "found", "at", "person", "ranks", "one"]
abbrev f_shares_of : Fn := U.f_shares_of
def d_shares_of : Def := ⟨"shares_of", "shares_of", none, ["rule", "places"], n_shares_of.map Str.ofString, L2.defArgs (top 25), L2.defBody (top 25), L2.defScope (top 25), false, f_shares_of⟩
abbrev i_shares_of : Nat := 13
def n_lowest : List String := ["top", "bottom", "share"]
abbrev f_lowest : Fn := U.f_lowest
def d_lowest : Def := ⟨"lowest", "lowest", none, ["top", "bottom"], n_lowest.map Str.ofString, L2.defArgs (top 26), L2.defBody (top 26), L2.defScope (top 26), false, f_lowest⟩
abbrev i_lowest : Nat := 14
def n_meeting_of : List String := ["rule", "places", "shares"]
abbrev f_meeting_of : Fn := U.f_meeting_of
def d_meeting_of : Def := ⟨"meeting_of", "meeting_of", none, ["rule", "places"], n_meeting_of.map Str.ofString, L2.defArgs (top 27), L2.defBody (top 27), L2.defScope (top 27), false, f_meeting_of⟩
abbrev i_meeting_of : Nat := 15
def n_Road__init_ : List String := ["self", "people", "rule", "places"]
abbrev f_Road__init_ : Fn := U.f_Road__init_
def d_Road__init_ : Def := ⟨"__init__", "Road.__init__", some "Road", ["self", "people", "rule", "places"], n_Road__init_.map Str.ofString, L2.defArgs (inCls (top 29) 0), L2.defBody (inCls (top 29) 0), L2.defScope (inCls (top 29) 0), false, f_Road__init_⟩
abbrev i_Road__init_ : Nat := 111
def n_Road_places : List String := ["self"]
abbrev f_Road_places : Fn := U.f_Road_places
def d_Road_places : Def := ⟨"places", "Road.places", some "Road", ["self"], n_Road_places.map Str.ofString, L2.defArgs (inCls (top 29) 1), L2.defBody (inCls (top 29) 1), L2.defScope (inCls (top 29) 1), false, f_Road_places⟩
abbrev i_Road_places : Nat := 112
def n_Road_meeting : List String := ["self", "top", "bottom"]
abbrev f_Road_meeting : Fn := U.f_Road_meeting
def d_Road_meeting : Def := ⟨"meeting", "Road.meeting", some "Road", ["self"], n_Road_meeting.map Str.ofString, L2.defArgs (inCls (top 29) 2), L2.defBody (inCls (top 29) 2), L2.defScope (inCls (top 29) 2), false, f_Road_meeting⟩
abbrev i_Road_meeting : Nat := 113
def n_Road_tell : List String := ["self", "person", "place", "now", "before"]
abbrev f_Road_tell : Fn := U.f_Road_tell
def d_Road_tell : Def := ⟨"tell", "Road.tell", some "Road", ["self", "person", "place"], n_Road_tell.map Str.ofString, L2.defArgs (inCls (top 29) 3), L2.defBody (inCls (top 29) 3), L2.defScope (inCls (top 29) 3), false, f_Road_tell⟩
abbrev i_Road_tell : Nat := 114
def n_Road_undo : List String := ["self"]
abbrev f_Road_undo : Fn := U.f_Road_undo
def d_Road_undo : Def := ⟨"undo", "Road.undo", some "Road", ["self"], n_Road_undo.map Str.ofString, L2.defArgs (inCls (top 29) 4), L2.defBody (inCls (top 29) 4), L2.defScope (inCls (top 29) 4), false, f_Road_undo⟩
abbrev i_Road_undo : Nat := 115
def n_Road_redo : List String := ["self"]
abbrev f_Road_redo : Fn := U.f_Road_redo
def d_Road_redo : Def := ⟨"redo", "Road.redo", some "Road", ["self"], n_Road_redo.map Str.ofString, L2.defArgs (inCls (top 29) 5), L2.defBody (inCls (top 29) 5), L2.defScope (inCls (top 29) 5), false, f_Road_redo⟩
abbrev i_Road_redo : Nat := 116
def n_Road__len_ : List String := ["self"]
abbrev f_Road__len_ : Fn := U.f_Road__len_
def d_Road__len_ : Def := ⟨"__len__", "Road.__len__", some "Road", ["self"], n_Road__len_.map Str.ofString, L2.defArgs (inCls (top 29) 6), L2.defBody (inCls (top 29) 6), L2.defScope (inCls (top 29) 6), false, f_Road__len_⟩
abbrev i_Road__len_ : Nat := 117
def n_Road__eq_ : List String := ["self", "other"]
abbrev f_Road__eq_ : Fn := U.f_Road__eq_
def d_Road__eq_ : Def := ⟨"__eq__", "Road.__eq__", some "Road", ["self", "other"], n_Road__eq_.map Str.ofString, L2.defArgs (inCls (top 29) 7), L2.defBody (inCls (top 29) 7), L2.defScope (inCls (top 29) 7), false, f_Road__eq_⟩
abbrev i_Road__eq_ : Nat := 118
def n__law_cell : List String := ["script", "k"]
abbrev f__law_cell : Fn := U.f__law_cell
def d__law_cell : Def := ⟨"_law_cell", "_law_cell", none, ["script", "k"], n__law_cell.map Str.ofString, L2.defArgs (top 31), L2.defBody (top 31), L2.defScope (top 31), false, f__law_cell⟩
abbrev i__law_cell : Nat := 19
def n__law_drawn : List String := ["cell", "k", "more"]
abbrev f__law_drawn : Fn := U.f__law_drawn
def d__law_drawn : Def := ⟨"_law_drawn", "_law_drawn", none, ["cell", "k"], n__law_drawn.map Str.ofString, L2.defArgs (top 32), L2.defBody (top 32), L2.defScope (top 32), false, f__law_drawn⟩
abbrev i__law_drawn : Nat := 20
def n__law_roll : List String := ["dice", "many", "told"]
abbrev f__law_roll : Fn := U.f__law_roll
def d__law_roll : Def := ⟨"_law_roll", "_law_roll", none, ["dice", "many"], n__law_roll.map Str.ofString, L2.defArgs (top 33), L2.defBody (top 33), L2.defScope (top 33), false, f__law_roll⟩
abbrev i__law_roll : Nat := 21
def n__law_rounds : List String := ["script", "most", "k"]
abbrev f__law_rounds : Fn := U.f__law_rounds
def d__law_rounds : Def := ⟨"_law_rounds", "_law_rounds", none, ["script", "most"], n__law_rounds.map Str.ofString, L2.defArgs (top 34), L2.defBody (top 34), L2.defScope (top 34), false, f__law_rounds⟩
abbrev i__law_rounds : Nat := 22
def n__law_inside : List String := ["one", "other", "person"]
abbrev f__law_inside : Fn := U.f__law_inside
def d__law_inside : Def := ⟨"_law_inside", "_law_inside", none, ["one", "other"], n__law_inside.map Str.ofString, L2.defArgs (top 37), L2.defBody (top 37), L2.defScope (top 37), false, f__law_inside⟩
abbrev i__law_inside : Nat := 23
def n__law_antichains : List String := ["many", "sets", "person", "rows", "one", "longer", "row", "other"]
abbrev f__law_antichains : Fn := U.f__law_antichains
def d__law_antichains : Def := ⟨"_law_antichains", "_law_antichains", none, ["many"], n__law_antichains.map Str.ofString, L2.defArgs (top 38), L2.defBody (top 38), L2.defScope (top 38), false, f__law_antichains⟩
abbrev i__law_antichains : Nat := 24
def n__law_shares : List String := ["dice", "many", "far", "found", "person"]
abbrev f__law_shares : Fn := U.f__law_shares
def d__law_shares : Def := ⟨"_law_shares", "_law_shares", none, ["dice", "many", "far"], n__law_shares.map Str.ofString, L2.defArgs (top 39), L2.defBody (top 39), L2.defScope (top 39), false, f__law_shares⟩
abbrev i__law_shares : Nat := 25
def n__law_rule : List String := ["dice", "many", "pick", "rows"]
abbrev f__law_rule : Fn := U.f__law_rule
def d__law_rule : Def := ⟨"_law_rule", "_law_rule", none, ["dice", "many"], n__law_rule.map Str.ofString, L2.defArgs (top 40), L2.defBody (top 40), L2.defScope (top 40), false, f__law_rule⟩
abbrev i__law_rule : Nat := 26
def n__law_places : List String := ["dice", "many", "far", "person"]
abbrev f__law_places : Fn := U.f__law_places
def d__law_places : Def := ⟨"_law_places", "_law_places", none, ["dice", "many", "far"], n__law_places.map Str.ofString, L2.defArgs (top 41), L2.defBody (top 41), L2.defScope (top 41), false, f__law_places⟩
abbrev i__law_places : Nat := 27
def n__law_meeting : List String := ["rule", "spots", "row", "one", "at", "person"]
abbrev f__law_meeting : Fn := U.f__law_meeting
def d__law_meeting : Def := ⟨"_law_meeting", "_law_meeting", none, ["rule", "spots"], n__law_meeting.map Str.ofString, L2.defArgs (top 42), L2.defBody (top 42), L2.defScope (top 42), false, f__law_meeting⟩
abbrev i__law_meeting : Nat := 33
def n__law_fraction : List String := ["top", "bottom", "one", "other"]
abbrev f__law_fraction : Fn := U.f__law_fraction
def d__law_fraction : Def := ⟨"_law_fraction", "_law_fraction", none, ["top", "bottom"], n__law_fraction.map Str.ofString, L2.defArgs (top 43), L2.defBody (top 43), L2.defScope (top 43), false, f__law_fraction⟩
abbrev i__law_fraction : Nat := 34
def n_law : List String := ["script", "dice", "roads_there", "rows", "turn", "back", "rules", "firsts", "at", "which", "person", "spot", "now", "top", "bottom"]
def f_law : Fn := ⟨15, 1, true, (.cons (.for_ (.name 1) (.seq (.call 22 (.cons (.v 0) (.cons (.k (.int 4)) .nil)))) (.cons (.asg (.tup (.cons (.name 6) (.cons (.name 7) .nil))) (.tup (.cons (.ofL (.disp (.cons (.call 26 (.cons (.v 1) (.cons (.k (.int 2)) .nil))) (.cons (.call 26 (.cons (.v 1) (.cons (.k (.int 3)) .nil))) .nil)))) (.cons (.ofL (.disp (.cons (.call 27 (.cons (.v 1) (.cons (.k (.int 2)) (.cons (.k (.int 9)) .nil)))) (.cons (.call 27 (.cons (.v 1) (.cons (.k (.int 3)) (.cons (.k (.int 9)) .nil)))) .nil)))) .nil))))
 (.cons (.asg (.name 2) (.ofL (.disp (.cons (.make "Road" 111 (.cons (.k (.int 2)) (.cons (.ix (.v 6) (.k (.int 0))) (.cons (.ix (.v 7) (.k (.int 0))) .nil)))) (.cons (.make "Road" 111 (.cons (.k (.int 3)) (.cons (.ix (.v 6) (.k (.int 1))) (.cons (.ix (.v 7) (.k (.int 1))) .nil)))) .nil)))))
 (.cons (.asg (.name 3) (.alloc (.disp (.cons (.ofL (.disp (.cons (.ix (.v 7) (.k (.int 0))) .nil))) (.cons (.ofL (.disp (.cons (.ix (.v 7) (.k (.int 1))) .nil))) .nil)))))
 (.cons (.for_ (.name 4) (.rng1 (.k (.int 8))) (.cons (.asg (.name 8) (.call 21 (.cons (.v 1) (.cons (.k (.int 2)) .nil))))
 (.cons (.ife (.bop true (.cons (.cmp .gt (.blt .len (.cons (.ix (.v 3) (.v 8)) .nil)) (.k (.int 1))) (.cons (.cmp .eq (.call 21 (.cons (.v 1) (.cons (.k (.int 3)) .nil))) (.k (.int 0))) .nil))) (.cons (.ife (.cmp .ne (.told (.meth "Road" "undo" 115 (.ix (.v 2) (.v 8)) .nil)) (.ix (.ix (.v 3) (.v 8)) (.neg (.k (.int 2))))) (.cons (.ret (.k (.bl false)))
 .nil) .nil)
 (.cons (.asg (.sub (.v 3) (.v 8)) (.sl (.ix (.v 3) (.v 8)) .none (.some (.neg (.k (.int 1))))))
 .nil)) (.cons (.asg (.tup (.cons (.name 10) (.cons (.name 11) (.cons (.name 12) .nil)))) (.tup (.cons (.call 21 (.cons (.v 1) (.cons (.bin .add (.k (.int 2)) (.v 8)) .nil))) (.cons (.bin .add (.k (.int 1)) (.call 21 (.cons (.v 1) (.cons (.k (.int 9)) .nil)))) (.cons (.ix (.ix (.v 3) (.v 8)) (.neg (.k (.int 1)))) .nil)))))
 (.cons (.expr (.meth "Road" "tell" 114 (.ix (.v 2) (.v 8)) (.cons (.v 10) (.cons (.v 11) .nil))))
 (.cons (.asg (.sub (.v 3) (.v 8)) (.bin .add (.ix (.v 3) (.v 8)) (.ofL (.disp (.cons (.bin .add (.bin .add (.sl (.v 12) .none (.some (.v 10))) (.tup (.cons (.v 11) .nil))) (.sl (.v 12) (.some (.bin .add (.v 10) (.k (.int 1)))) .none)) .nil)))))
 .nil))))
 (.cons (.for_ (.name 9) (.rng1 (.k (.int 2))) (.cons (.asg (.tup (.cons (.name 13) (.cons (.name 14) .nil))) (.call 33 (.cons (.ix (.v 6) (.v 9)) (.cons (.ix (.ix (.v 3) (.v 9)) (.neg (.k (.int 1)))) .nil))))
 (.cons (.ife (.cmp .ne (.meth "Road" "places" 112 (.ix (.v 2) (.v 9)) .nil) (.ix (.ix (.v 3) (.v 9)) (.neg (.k (.int 1))))) (.cons (.ret (.k (.bl false)))
 .nil) .nil)
 (.cons (.ife (.cmp .ne (.meth "Road" "meeting" 113 (.ix (.v 2) (.v 9)) .nil) (.call 34 (.cons (.v 13) (.cons (.v 14) .nil)))) (.cons (.ret (.k (.bl false)))
 .nil) .nil)
 .nil))))
 .nil))))
 (.cons (.asg (.name 5) (.bin .sub (.blt .len (.cons (.ix (.v 3) (.k (.int 1))) .nil)) (.k (.int 1))))
 (.cons (.for_ (.name 4) (.rng1 (.v 5)) (.cons (.ife (.cmp .ne (.told (.meth "Road" "undo" 115 (.ix (.v 2) (.k (.int 1))) .nil)) (.ix (.ix (.v 3) (.k (.int 1))) (.bin .sub (.bin .sub (.v 5) (.v 4)) (.k (.int 1))))) (.cons (.ret (.k (.bl false)))
 .nil) .nil)
 .nil))
 (.cons (.for_ (.name 4) (.rng1 (.v 5)) (.cons (.ife (.cmp .ne (.told (.meth "Road" "redo" 116 (.ix (.v 2) (.k (.int 1))) .nil)) (.ix (.ix (.v 3) (.k (.int 1))) (.bin .add (.v 4) (.k (.int 1))))) (.cons (.ret (.k (.bl false)))
 .nil) .nil)
 .nil))
 (.cons (.ife (.bop false (.cons (.eqO "Road" 118 (.ix (.v 2) (.k (.int 0))) (.ix (.v 2) (.k (.int 1)))) (.cons (.cmp .ne (.meth "Road" "places" 112 (.ix (.v 2) (.k (.int 1))) .nil) (.ix (.ix (.v 3) (.k (.int 1))) (.neg (.k (.int 1))))) .nil))) (.cons (.ret (.k (.bl false)))
 .nil) .nil)
 .nil)))))))))
 (.cons (.ret (.k (.bl true)))
 .nil))⟩
def d_law : Def := ⟨"law", "law", none, ["script"], n_law.map Str.ofString, L2.defArgs (top 44), L2.defBody (top 44), L2.defScope (top 44), true, f_law⟩
abbrev i_law : Nat := 28
def ds : List (Option Def) := [some d_divisor, some d_worth, some d_is_whole, some d_need_people, some d_within, some d_is_sets, some d_is_shares, some d_is_rule_for, some d_need_rule, some d_is_places_for, some d_need_places, some d_order_of, some d_end_of, some d_shares_of, some d_lowest, some d_meeting_of, none, none, none, some d__law_cell, some d__law_drawn, some d__law_roll, some d__law_rounds, some d__law_inside, some d__law_antichains, some d__law_shares, some d__law_rule, some d__law_places, some d_law, none, none, none, none, some d__law_meeting, some d__law_fraction, none, none, none, none, none, none, none, none, none, none, none, none, none, none, none, none, none, none, none, none, none, none, none, none, none, none, none, none, none, none, none, none, none, none, none, none, none, none, none, none, none, none, none, none, none, none, none, none, none, none, none, none, none, none, none, none, none, none, none, none, none, none, none, none, none, none, none, none, none, none, none, none, none, none, none, none, some d_Road__init_, some d_Road_places, some d_Road_meeting, some d_Road_tell, some d_Road_undo, some d_Road_redo, some d_Road__len_, some d_Road__eq_]
def G : Gd := ⟨["abs", "all", "any", "int", "len", "max", "min", "sum", "tuple", "str", "bool", "isinstance", "list", "sorted", "set", "enumerate", "range"], [("MOST_PLACE", 1000000)], [], [gF "divisor" 2, gF "worth" 2, gF "is_whole" 3, gF "need_people" 1, gF "within" 2, gF "is_sets" 2, gF "is_shares" 2, gF "is_rule_for" 2, gF "need_rule" 2, gF "is_places_for" 2, gF "need_places" 2, gF "order_of" 1, gF "end_of" 1, gF "shares_of" 2, gF "lowest" 2, gF "meeting_of" 2, none, none, none, gF "_law_cell" 2, gF "_law_drawn" 2, gF "_law_roll" 2, gF "_law_rounds" 2, gF "_law_inside" 2, gF "_law_antichains" 1, gF "_law_shares" 3, gF "_law_rule" 2, gF "_law_places" 3, gF "law" 1, none, none, none, none, gF "_law_meeting" 2, gF "_law_fraction" 2, none, none, none, none, none, none, none, none, none, none, none, none, none, none, none, none, none, none, none, none, none, none, none, none, none, none, none, none, none, none, none, none, none, none, none, none, none, none, none, none, none, none, none, none, none, none, none, none, none, none, none, none, none, none, none, none, none, none, none, none, none, none, none, none, none, none, none, none, none, none, none, none, none, none, none, none, gM "Road" "__init__" 4, gM "Road" "places" 1, gM "Road" "meeting" 1, gM "Road" "tell" 3, gM "Road" "undo" 1, gM "Road" "redo" 1, gM "Road" "__len__" 1, gM "Road" "__eq__" 2], ["InvalidPeople", "InvalidRule", "InvalidPlaces", "InvalidKind", "InvalidNumber", "InvalidText", "NothingToUndo"], ["Road"], [("Road", "rows"), ("Road", "rule"), ("Road", "undone")]⟩
abbrev fs : List (Option Fn) := fnsOf ds
def shared : List Nat := [0, 1, 2, 3, 4, 5, 6, 7, 8, 9, 10, 11, 12, 13, 14, 15, 19, 20, 21, 22, 23, 24, 25, 26, 27, 33, 34, 111, 112, 113, 114, 115, 116, 117, 118]
theorem toU {F n i : Nat} (h : shared.contains i = true) : callN fs F n i = callN U.fs F n i := agree_of shared (by rfl) (by decide +kernel) h
def lawTop : Nat := 44
def top_law_term : Stmt := top 35
def top_law_told : Stmt := top 36
end K12

namespace U
open PySem Rf
abbrev CC (F n : Nat) : Calls := callN fs F n
theorem call_eq {F n i : Nat} {f : Fn} {as : List D} {st : Hs} (h : fs[i]? = some (some f)) : CC F (n + 1) i as st = runFn (CC F n) F f as st := callN_some h
theorem fin_same {b : Bool} {d : D} {st : Hs} : fin b st.length d st = .ok d st := by
  unfold fin
  rw [if_pos (Nat.ble_eq_true_of_le (Nat.le_refl _))]
theorem run_of {C : Calls} {F : Nat} {f : Fn} {as : List D} {st : Hs} {d : D} (hl : as.length = f.pars) (h : evSs C F f.body (startR f as) st = .ret d st) : runFn C F f as st = .ok d st := by
  unfold runFn
  rw [if_pos hl, h]
  exact fin_same
theorem run_next {C : Calls} {F : Nat} {f : Fn} {as : List D} {st : Hs} {ρ : Rho} (hl : as.length = f.pars) (h : evSs C F f.body (startR f as) st = .next ρ st) : runFn C F f as st = .ok .non st := by
  unfold runFn
  rw [if_pos hl, h]
  exact fin_same
theorem ss_nx {C : Calls} {F : Nat} {s : S} {ss : Ss} {ρ ρ' : Rho} {st st' : Hs} (h : evS C F s ρ st = .next ρ' st') : evSs C F (.cons s ss) ρ st = evSs C F ss ρ' st' := by
  show (match evS C F s ρ st with | .next ρ st => evSs C F ss ρ st | r => r) = _
  rw [h]
theorem ss_rt {C : Calls} {F : Nat} {s : S} {ss : Ss} {ρ : Rho} {st st' : Hs} {d : D} (h : evS C F s ρ st = .ret d st') : evSs C F (.cons s ss) ρ st = .ret d st' := by
  show (match evS C F s ρ st with | .next ρ st => evSs C F ss ρ st | r => r) = _
  rw [h]
theorem is_whole_eq {F n : Nat} {v lo hi : Int} {st : Hs} : CC F (n + 1) i_is_whole [.int v, .int lo, .int hi] st = .ok (.bl (decide (lo ≤ v) && decide (v ≤ hi))) st := by
  rw [call_eq (f := f_is_whole) rfl]
  refine run_of rfl ?_
  show evSs _ _ f_is_whole.body [some (.int v), some (.int lo), some (.int hi)] st = _
  have e : ∀ b : Bool, cmpV .le (.int lo) (.int v) = some b → evSs (CC F n) F f_is_whole.body [some (.int v), some (.int lo), some (.int hi)] st = .ret (.bl (b && decide (v ≤ hi))) st := by
    intro b hb
    have hb' : cmpV .le (dr st (.int lo)) (dr st (.int v)) = some b := hb
    simp only [f_is_whole, evSs, evS, evE, evB, Res.bind, Res.sr, isiV, ok1, Option.map, List.getElem?_cons_zero, List.getElem?_cons_succ, hb']
    cases b <;> rfl
  exact e _ rfl
/-! ### the greatest common divisor -/
theorem while_gcd {C : Calls} {F : Nat} {st : Hs} : ∀ (f : Nat) (a b : Nat), b < f → whileN (evE C F (.cmp .ne (.v 1) (.k (.int 0)))) (evSs C F (.cons (.asg (.tup (.cons (.name 0) (.cons (.name 1) .nil))) (.tup (.cons (.v 1) (.cons (.bin .mod (.v 0) (.v 1)) .nil)))) .nil)) f [some (.int a), some (.int b)] st = .next [some (.int (Nat.gcd a b)), some (.int 0)] st := by
  intro f
  induction f with
  | zero => intro a b h; omega
  | succ f ih =>
    intro a b h
    unfold whileN
    by_cases hb : b = 0
    · subst hb
      rw [Nat.gcd_zero_right]
      rfl
    · have e1 : evE C F (.cmp .ne (.v 1) (.k (.int 0))) [some (.int a), some (.int b)] st = .ok (.bl true) st := by
        have : (!eqD (.int b) (.int 0)) = true := by
          simp [eqD, hb]
        show Res.ok (D.bl (!eqD (.int b) (.int 0))) st = _
        rw [this]
      rw [e1]
      have e2 : evSs C F (.cons (.asg (.tup (.cons (.name 0) (.cons (.name 1) .nil))) (.tup (.cons (.v 1) (.cons (.bin .mod (.v 0) (.v 1)) .nil)))) .nil) [some (.int a), some (.int b)] st = .next [some (.int b), some (.int (a % b : Nat))] st := by
        have hp : decide ((0 : Int) < (b : Int)) = true := decide_eq_true (by omega)
        have : binV .mod (.int a) (.int b) = some (.int (a % b : Nat)) := by
          show (if decide ((0 : Int) < (b : Int)) = true then some (D.int ((a : Int) % (b : Int))) else none) = _
          rw [if_pos hp]
          rfl
        have this' : binV .mod (dr st (.int a)) (dr st (.int b)) = some (.int (a % b : Nat)) := this
        simp only [evSs, evS, evE, evEs, evTg, evTgs, Res.bind, Res.sr, ok1, List.getElem?_cons_zero, List.getElem?_cons_succ, this', List.length_cons, List.length_nil, Tgs.len, if_true, setI, List.set_cons_zero, List.set_cons_succ]
      show (match evSs C F _ [some (.int a), some (.int b)] st with
        | .next ρ' st'' => whileN _ _ f ρ' st''
        | r => r) = _
      rw [e2]
      show whileN _ _ f [some (.int b), some (.int (a % b : Nat))] st = _
      rw [ih b (a % b) (by have := Nat.mod_lt a (Nat.pos_of_ne_zero hb); omega)]
      have : Nat.gcd a b = Nat.gcd b (a % b) := by rw [Nat.gcd_comm a b, Nat.gcd_rec b a, Nat.gcd_comm]
      rw [this]
theorem divisor_eq {F n : Nat} {a b : Int} {st : Hs} (h : b.natAbs < F) : CC F (n + 1) i_divisor [.int a, .int b] st = .ok (.int (Int.gcd a b)) st := by
  rw [call_eq (f := f_divisor) rfl]
  refine run_of rfl ?_
  show evSs _ _ f_divisor.body [some (.int a), some (.int b)] st = _
  have ab : ∀ i : Int, (if i < 0 then -i else i) = (i.natAbs : Int) := fun i => by split <;> omega
  have e1 : evS (CC F n) F (.asg (.tup (.cons (.name 0) (.cons (.name 1) .nil))) (.tup (.cons (.blt .abs (.cons (.v 0) .nil)) (.cons (.blt .abs (.cons (.v 1) .nil)) .nil)))) [some (.int a), some (.int b)] st = .next [some (.int a.natAbs), some (.int b.natAbs)] st := by
    rw [← ab a, ← ab b]
    rfl
  have e2 : evS (CC F n) F (.while_ (.cmp .ne (.v 1) (.k (.int 0))) (.cons (.asg (.tup (.cons (.name 0) (.cons (.name 1) .nil))) (.tup (.cons (.v 1) (.cons (.bin .mod (.v 0) (.v 1)) .nil)))) .nil)) [some (.int a.natAbs), some (.int b.natAbs)] st = .next [some (.int (Nat.gcd a.natAbs b.natAbs)), some (.int 0)] st := while_gcd (C := CC F n) (F := F) (st := st) F a.natAbs b.natAbs h
  refine (ss_nx e1).trans ((ss_nx e2).trans ?_)
  rfl
end U

namespace U
open PySem Rf
theorem lowest_eq {F n : Nat} {t b : Int} {st : Hs} (h : b.natAbs < F) (hd : divOk (Int.gcd t b) = true) : CC F (n + 2) i_lowest [.int t, .int b] st = .ok (.tup [.int (t / Int.gcd t b), .int (b / Int.gcd t b)]) st := by
  rw [call_eq (f := f_lowest) rfl]
  refine run_of rfl ?_
  show evSs _ _ f_lowest.body [some (.int t), some (.int b), none] st = _
  have e1 : evS (CC F (n + 1)) F (.asg (.name 2) (.call 0 (.cons (.v 0) (.cons (.v 1) .nil)))) [some (.int t), some (.int b), none] st = .next [some (.int t), some (.int b), some (.int (Int.gcd t b))] st := by
    show (CC F (n + 1) 0 [.int t, .int b] st).sr _ = _
    rw [divisor_eq h]
    rfl
  refine (ss_nx e1).trans (ss_rt ?_)
  have f1 : binV .fdiv (.int t) (.int (Int.gcd t b)) = some (.int (t / Int.gcd t b)) := by
    show (if divOk (Int.gcd t b) = true then some (D.int (t / Int.gcd t b)) else none) = _
    rw [if_pos hd]
  have f2 : binV .fdiv (.int b) (.int (Int.gcd t b)) = some (.int (b / Int.gcd t b)) := by
    show (if divOk (Int.gcd t b) = true then some (D.int (b / Int.gcd t b)) else none) = _
    rw [if_pos hd]
  show (((ok1 st (binV .fdiv (.int t) (.int (Int.gcd t b)))).bind fun d st => (((ok1 st (binV .fdiv (.int b) (.int (Int.gcd t b)))).bind fun d st => Res.ok [d] st)).bind fun ds st => Res.ok (d :: ds) st).bind fun ds st => Res.ok (D.tup ds) st).sr (fun d st => SR.ret d st) = _
  rw [f1, f2]
  rfl
/-! ### who stands where -/
theorem lt_pair {a b i j : Int} : ltD (.tup [.int a, .int i]) (.tup [.int b, .int j]) = (decide (a < b) || (decide (a = b) && decide (i < j))) := by
  unfold ltD
  simp only [cmpD, cmpDs]
  by_cases h1 : a < b
  · simp [h1]
  · by_cases h2 : a = b
    · subst h2
      by_cases h3 : i < j
      · simp [h3]
      · by_cases h4 : i = j
        · simp [h4]
        · simp [h3, h4]
    · simp [h1, h2]
abbrev pr (a i : Int) : D := .tup [.int a, .int i]
/-- the comprehension behind the sorting -/
theorem seq_at {C : Calls} {F : Nat} {ρ : Rho} {st : Hs} {a : E} {zs : List D} (h : evE C F a ρ st = .ok (.lst zs) st) : evIt C F (.seq a) ρ st = .ok (.st false zs) st := by
  show (evE C F a ρ st).bind _ = _
  rw [h]
  rfl
theorem comp_at {C : Calls} {F : Nat} {ρ : Rho} {st st1 : Hs} {own : List Nat} {t : Tg} {it : It} {c : Oe} {i : E} {en : Bool} {zs : List D} (h : evIt C F it ρ st = .ok (.st en zs) st1) (hl : lenOk zs = true) :
    evL C F (.comp own t it c i) ρ st = compS en (bodyC C F ρ own t c i) zs 0 [] st1 := by
  show (evIt C F it ρ st).bind _ = _
  rw [h]
  show (if lenOk zs = true then _ else _) = _
  rw [if_pos hl]
  rfl
theorem sorted_at {C : Calls} {F : Nat} {ρ : Rho} {st : Hs} {a : E} {zs : List D} (h : evE C F a ρ st = .ok (.lst zs) st) (h1 : lenOk zs = true) (h2 : sortable zs = true) (h3 : sortShape zs = true) : evE C F (.ofL (.sorted a)) ρ st = .ok (.lst (sortD zs)) st := by
  show (((evE C F a ρ st).bind _).bind _) = _
  rw [h]
  show ((ok1 st (if (lenOk zs && sortable zs && sortShape zs) = true then some (sortD zs) else none)).bind _) = _
  rw [h1, h2, h3]
  rfl
theorem order2 {F n : Nat} {a b : Int} {st : Hs} : CC F (n + 1) i_order_of [.tup [.int a, .int b]] st = .ok (.lst (if b < a then [.int 1, .int 0] else [.int 0, .int 1])) st := by
  rw [call_eq (f := f_order_of) rfl]
  refine run_of rfl (ss_rt ?_)
  have hs : sortD [pr a 0, pr b 1] = if b < a then [pr b 1, pr a 0] else [pr a 0, pr b 1] := by
    show (if ltD (pr b 1) (pr a 0) = true then [pr b 1, pr a 0] else [pr a 0, pr b 1]) = _
    rw [lt_pair]
    by_cases h : b < a
    · simp [h]
    · by_cases h2 : b = a
      · simp [h2]
      · simp [h, h2]
  have e1 := seq_at (sorted_at (C := CC F n) (F := F) (ρ := startR f_order_of [.tup [.int a, .int b]]) (st := st) (a := .ofL (.comp [2, 1] (.tup (.cons (.name 2) (.cons (.name 1) .nil))) (.enum (.v 0)) .none (.tup (.cons (.v 1) (.cons (.v 2) .nil))))) (zs := [pr a 0, pr b 1]) rfl rfl rfl rfl)
  rw [hs] at e1
  by_cases h : b < a
  · rw [if_pos h] at e1 ⊢
    show ((evL _ _ (.comp _ _ _ _ _) _ _).bind _).sr _ = _
    rw [comp_at e1 rfl]
    rfl
  · rw [if_neg h] at e1 ⊢
    show ((evL _ _ (.comp _ _ _ _ _) _ _).bind _).sr _ = _
    rw [comp_at e1 rfl]
    rfl
end U
namespace U
open PySem Rf
def ord2 (a b : Int) : List Int := if b < a then [1, 0] else [0, 1]
def ord3 (a b c : Int) : List Int := if c < b then (if c < a then (if b < a then [2, 1, 0] else [2, 0, 1]) else [0, 2, 1]) else (if b < a then (if c < a then [1, 2, 0] else [1, 0, 2]) else [0, 1, 2])
theorem lt_pr {a b i j : Int} (h : j < i) : ltD (pr a i) (pr b j) = decide (a < b) := by
  rw [lt_pair, decide_eq_false (show ¬ i < j by omega), Bool.and_false, Bool.or_false]
theorem sort3 {a b c : Int} : sortD [pr a 0, pr b 1, pr c 2] = if c < b then (if c < a then (if b < a then [pr c 2, pr b 1, pr a 0] else [pr c 2, pr a 0, pr b 1]) else [pr a 0, pr c 2, pr b 1]) else (if b < a then (if c < a then [pr b 1, pr c 2, pr a 0] else [pr b 1, pr a 0, pr c 2]) else [pr a 0, pr b 1, pr c 2]) := by
  show sortD.insF (pr a 0) (if ltD (pr c 2) (pr b 1) = true then [pr c 2, pr b 1] else [pr b 1, pr c 2]) = _
  rw [lt_pr (by decide)]
  by_cases h1 : c < b
  · rw [if_pos h1, decide_eq_true h1, if_pos rfl]
    show (if ltD (pr c 2) (pr a 0) = true then pr c 2 :: (if ltD (pr b 1) (pr a 0) = true then [pr b 1, pr a 0] else [pr a 0, pr b 1]) else [pr a 0, pr c 2, pr b 1]) = _
    rw [lt_pr (by decide), lt_pr (by decide)]
    by_cases h2 : c < a <;> by_cases h3 : b < a <;> simp [h2, h3]
  · rw [if_neg h1, decide_eq_false h1, if_neg (by decide)]
    show (if ltD (pr b 1) (pr a 0) = true then pr b 1 :: (if ltD (pr c 2) (pr a 0) = true then [pr c 2, pr a 0] else [pr a 0, pr c 2]) else [pr a 0, pr b 1, pr c 2]) = _
    rw [lt_pr (by decide), lt_pr (by decide)]
    by_cases h2 : c < a <;> by_cases h3 : b < a <;> simp [h2, h3]
theorem order_of_sorted {F n : Nat} {p : D} {st : Hs} {zs ys : List D} (hz : evE (CC F n) F (.ofL (.comp [2, 1] (.tup (.cons (.name 2) (.cons (.name 1) .nil))) (.enum (.v 0)) .none (.tup (.cons (.v 1) (.cons (.v 2) .nil))))) [some p, none, none] st = .ok (.lst zs) st)
    (h1 : lenOk zs = true) (h2 : sortable zs = true) (h3 : sortShape zs = true) (h4 : lenOk (sortD zs) = true) (hy : compS false (bodyC (CC F n) F [some p, none, none] [1, 2] (.tup (.cons (.name 1) (.cons (.name 2) .nil))) .none (.v 2)) (sortD zs) 0 [] st = .ok ys st) :
    CC F (n + 1) i_order_of [p] st = .ok (.lst ys) st := by
  rw [call_eq (f := f_order_of) rfl]
  refine run_of rfl (ss_rt ?_)
  have e1 := seq_at (sorted_at hz h1 h2 h3)
  show ((evL _ _ (.comp _ _ _ _ _) [some p, none, none] _).bind _).sr _ = _
  rw [comp_at e1 h4, hy]
  rfl
theorem order3 {F n : Nat} {a b c : Int} {st : Hs} : CC F (n + 1) i_order_of [.tup [.int a, .int b, .int c]] st = .ok (.lst ((ord3 a b c).map .int)) st := by
  have key : ∀ zs : List D, sortD [pr a 0, pr b 1, pr c 2] = zs → ∀ os : List Int, lenOk zs = true → compS false (bodyC (CC F n) F [some (.tup [.int a, .int b, .int c]), none, none] [1, 2] (.tup (.cons (.name 1) (.cons (.name 2) .nil))) .none (.v 2)) zs 0 [] st = .ok (os.map .int) st →
      CC F (n + 1) i_order_of [.tup [.int a, .int b, .int c]] st = .ok (.lst (os.map .int)) st := by
    intro zs h os hl hy
    refine order_of_sorted (zs := [pr a 0, pr b 1, pr c 2]) rfl rfl rfl rfl (by rw [h]; exact hl) (by rw [h]; exact hy)
  unfold ord3
  have hs := sort3 (a := a) (b := b) (c := c)
  by_cases h1 : c < b <;> by_cases h2 : c < a <;> by_cases h3 : b < a <;> simp only [h1, h2, h3, if_true, if_false] at hs ⊢ <;> exact key _ hs _ rfl rfl
end U

namespace U
open PySem Rf
/-- the dice -/
def dst (cs : List (Int × Int)) : Hs := cs.map fun c => O.lst [.int c.1, .int c.2]
theorem run_fin {C : Calls} {F : Nat} {f : Fn} {as : List D} {st st' : Hs} {d : D} {r : Res D} (hl : as.length = f.pars) (h : evSs C F f.body (startR f as) st = .ret d st') (hf : fin f.clean st.length d st' = r) : runFn C F f as st = r := by
  unfold runFn
  rw [if_pos hl, h]
  exact hf
theorem asg_call {C : Calls} {F : Nat} {k i : Nat} {es : Es} {ρ : Rho} {st : Hs} {as : List D} {d : D} (h1 : evEs C F es ρ st = .ok as st) (h2 : C k as st = .ok d st) : evS C F (.asg (.name i) (.call k es)) ρ st = .next (ρ.set i (some d)) st := by
  show ((evEs C F es ρ st).bind fun ds st => C k ds st).sr _ = _
  rw [h1]
  show (C k as st).sr _ = _
  rw [h2]
  rfl
def tailS : Ss → Ss
  | .cons _ ss => ss
  | .nil => .nil
/-- a body whose first row is name = f(..) -/
theorem run_asg {C : Calls} {F : Nat} {f : Fn} {as : List D} {st st' : Hs} {d : D} {r : Res D} {k i : Nat} {es : Es} {ss : Ss} {bs : List D} {x : D} (hl : as.length = f.pars) (hb : f.body = .cons (.asg (.name i) (.call k es)) ss) (h1 : evEs C F es (startR f as) st = .ok bs st) (h2 : C k bs st = .ok x st)
    (h : evSs C F ss ((startR f as).set i (some x)) st = .ret d st') (hf : fin f.clean st.length d st' = r) : runFn C F f as st = r := by
  refine run_fin hl ?_ hf
  rw [hb]
  exact (ss_nx (asg_call h1 h2)).trans h
def perms3 : List (List Int) := [[2, 1, 0], [2, 0, 1], [0, 2, 1], [1, 2, 0], [1, 0, 2], [0, 1, 2]]
theorem ord3_mem (a b c : Int) : ord3 a b c ∈ perms3 := by
  unfold ord3 perms3
  split <;> split <;> (try split) <;> simp
def put3 (os s : List Int) : List Int := match os, s with
  | [i, j, k], [x, y, z] => ((([0, 0, 0] : List Int).set i.toNat x).set j.toNat y).set k.toNat z
  | _, _ => []
theorem shares_ranks3 {F n : Nat} {cs : List (Int × Int)} {s0 s1 s2 a b c : Int} (hcs : cs.length ≤ 5) :
    CC F (n + 2) i_shares_of [.tup [.str "ranks", .tup [.int s0, .int s1, .int s2]], .tup [.int a, .int b, .int c]] (dst cs) = .ok (.lst ((put3 (ord3 a b c) [s0, s1, s2]).map .int)) (dst cs) := by
  rw [call_eq (f := f_shares_of) rfl]
  have key : ∀ os ∈ perms3, ∀ cs : List (Int × Int), cs.length ≤ 5 → ∀ C : Calls, evSs C F (tailS f_shares_of.body) [some (.tup [.str "ranks", .tup [.int s0, .int s1, .int s2]]), some (.tup [.int a, .int b, .int c]), some (.lst (os.map .int)), none, none, none, none, none] (dst cs) = .ret (.ref cs.length) (dst cs ++ [O.lst ((put3 os [s0, s1, s2]).map .int)]) ∧
      fin true (dst cs).length (.ref cs.length) (dst cs ++ [O.lst ((put3 os [s0, s1, s2]).map .int)]) = .ok (.lst ((put3 os [s0, s1, s2]).map .int)) (dst cs) := by
    intro os hos cs hcs C
    simp only [perms3, List.mem_cons, List.not_mem_nil, or_false] at hos
    rcases hos with rfl | rfl | rfl | rfl | rfl | rfl <;>
    · match cs, hcs with
      | [], _ => exact ⟨by kernel_rfl, by kernel_rfl⟩
      | [_], _ => exact ⟨by kernel_rfl, by kernel_rfl⟩
      | [_, _], _ => exact ⟨by kernel_rfl, by kernel_rfl⟩
      | [_, _, _], _ => exact ⟨by kernel_rfl, by kernel_rfl⟩
      | [_, _, _, _], _ => exact ⟨by kernel_rfl, by kernel_rfl⟩
      | [_, _, _, _, _], _ => exact ⟨by kernel_rfl, by kernel_rfl⟩
  obtain ⟨k1, k2⟩ := key _ (ord3_mem a b c) cs hcs (CC F (n + 1))
  exact run_asg (f := f_shares_of) rfl rfl rfl order3 k1 k2
end U

namespace U
open PySem Rf
theorem cmp_eq_int {x y : Int} : cmpV .eq (.int x) (.int y) = some (x == y) := rfl
theorem cmp_ne_int {x y : Int} : cmpV .ne (.int x) (.int y) = some (!(x == y)) := rfl
theorem cmp_lt_int {x y : Int} : cmpV .lt (.int x) (.int y) = some (decide (x < y)) := rfl
theorem cmp_le_int {x y : Int} : cmpV .le (.int x) (.int y) = some (decide (x ≤ y)) := rfl
theorem cmp_gt_int {x y : Int} : cmpV .gt (.int x) (.int y) = some (decide (y < x)) := rfl
theorem cmp_ge_int {x y : Int} : cmpV .ge (.int x) (.int y) = some (decide (y ≤ x)) := rfl
theorem add_int {x y : Int} : binV .add (.int x) (.int y) = some (.int (x + y)) := rfl
theorem sub_int {x y : Int} : binV .sub (.int x) (.int y) = some (.int (x - y)) := rfl
theorem mulOk_small {x y : Int} (h : x.natAbs < 2 ^ 64) : mulOk x y = true := by
  unfold mulOk
  have : Nat.blt x.natAbs (2 ^ 64) = true := by
    show Nat.ble (x.natAbs + 1) (2 ^ 64) = true
    exact Nat.ble_eq_true_of_le h
  rw [this]
  rfl
theorem mul_eq {x y : Int} (h : x.natAbs < 2 ^ 64) : binV .mul (.int x) (.int y) = some (.int (x * y)) := by
  show (if mulOk x y = true then some (D.int (x * y)) else none) = _
  rw [if_pos (mulOk_small h)]
theorem worth3 {F n : Nat} {st : Hs} {x y z a b c : Int} (hx : x.natAbs < 2 ^ 64) (hy : y.natAbs < 2 ^ 64) (hz : z.natAbs < 2 ^ 64) : CC F (n + 1) i_worth [.lst [.int x, .int y, .int z], .tup [.int a, .int b, .int c]] st = .ok (.int ([x * a, y * b, z * c].sum)) st := by
  rw [call_eq (f := f_worth) rfl]
  refine run_of rfl ?_
  (simp [startR, evSs, evS, evE, evEs, evB, evO, evL, evIt, evTg, evTgs, evC, compS, forS, Res.bind, Res.sr, ok1, ixV, ixK, items, seqOf, dr, lenOk, ixNat, bltV, allInt, allBl, isiV, setI, wipeR, itemAt, Kst.d, bigN, Tgs.len, rngL, cmp_eq_int, cmp_ne_int, cmp_lt_int, cmp_le_int, cmp_gt_int, cmp_ge_int, add_int, sub_int, f_worth, mul_eq hx, mul_eq hy, mul_eq hz])
theorem worth2 {F n : Nat} {st : Hs} {x y a b : Int} (hx : x.natAbs < 2 ^ 64) (hy : y.natAbs < 2 ^ 64) : CC F (n + 1) i_worth [.lst [.int x, .int y], .tup [.int a, .int b]] st = .ok (.int ([x * a, y * b].sum)) st := by
  rw [call_eq (f := f_worth) rfl]
  refine run_of rfl ?_
  (simp [startR, evSs, evS, evE, evEs, evB, evO, evL, evIt, evTg, evTgs, evC, compS, forS, Res.bind, Res.sr, ok1, ixV, ixK, items, seqOf, dr, lenOk, ixNat, bltV, allInt, allBl, isiV, setI, wipeR, itemAt, Kst.d, bigN, Tgs.len, rngL, cmp_eq_int, cmp_ne_int, cmp_lt_int, cmp_le_int, cmp_gt_int, cmp_ge_int, add_int, sub_int, f_worth, mul_eq hx, mul_eq hy])
theorem cmp_eq_str {x y : Str} (h1 : strOkB x = true) (h2 : strOkB y = true) : cmpV .eq (.str x) (.str y) = some (x == y) := by
  show (if (shD 60 (.str x) && shD 60 (.str y)) = true then some (eqD (.str x) (.str y)) else none) = _
  rw [show shD 60 (.str x) = strOkB x from rfl, show shD 60 (.str y) = strOkB y from rfl, h1, h2]
  rfl
theorem is_whole_w {F n : Nat} {v lo hi : Int} {st : Hs} (h1 : lo ≤ v) (h2 : v ≤ hi) : CC F (n + 1) 2 [.int v, .int lo, .int hi] st = .ok (.bl true) st := by
  have := is_whole_eq (F := F) (n := n) (v := v) (lo := lo) (hi := hi) (st := st)
  rw [decide_eq_true h1, decide_eq_true h2] at this
  exact this
theorem is_places3 {F n : Nat} {a b c : Int} {st : Hs} (ha : 1 ≤ a ∧ a ≤ 1000000) (hb : 1 ≤ b ∧ b ≤ 1000000) (hc : 1 ≤ c ∧ c ≤ 1000000) : CC F (n + 2) i_is_places_for [.tup [.int a, .int b, .int c], .int 3] st = .ok (.bl true) st := by
  rw [call_eq (f := f_is_places_for) rfl]
  refine run_of rfl ?_
  (simp [startR, evSs, evS, evE, evEs, evB, evO, evL, evIt, evTg, evTgs, evC, compS, forS, Res.bind, Res.sr, ok1, ixV, ixK, items, seqOf, dr, lenOk, ixNat, bltV, allInt, allBl, isiV, setI, wipeR, itemAt, Kst.d, bigN, Tgs.len, rngL, cmp_eq_int, cmp_ne_int, cmp_lt_int, cmp_le_int, cmp_gt_int, cmp_ge_int, add_int, sub_int, f_is_places_for, is_whole_w ha.1 ha.2, is_whole_w hb.1 hb.2, is_whole_w hc.1 hc.2])
theorem is_places2 {F n : Nat} {a b : Int} {st : Hs} (ha : 1 ≤ a ∧ a ≤ 1000000) (hb : 1 ≤ b ∧ b ≤ 1000000) : CC F (n + 2) i_is_places_for [.tup [.int a, .int b], .int 2] st = .ok (.bl true) st := by
  rw [call_eq (f := f_is_places_for) rfl]
  refine run_of rfl ?_
  (simp [startR, evSs, evS, evE, evEs, evB, evO, evL, evIt, evTg, evTgs, evC, compS, forS, Res.bind, Res.sr, ok1, ixV, ixK, items, seqOf, dr, lenOk, ixNat, bltV, allInt, allBl, isiV, setI, wipeR, itemAt, Kst.d, bigN, Tgs.len, rngL, cmp_eq_int, cmp_ne_int, cmp_lt_int, cmp_le_int, cmp_gt_int, cmp_ge_int, add_int, sub_int, f_is_places_for, is_whole_w ha.1 ha.2, is_whole_w hb.1 hb.2])
theorem is_shares3 {F n : Nat} {a b c : Int} {st : Hs} (ha : 0 ≤ a ∧ a ≤ 9) (hb : 0 ≤ b ∧ b ≤ 9) (hc : 0 ≤ c ∧ c ≤ 9) (hs : 0 < a + (b + c)) : CC F (n + 2) i_is_shares [.tup [.int a, .int b, .int c], .int 3] st = .ok (.bl true) st := by
  rw [call_eq (f := f_is_shares) rfl]
  refine run_of rfl ?_
  (simp [startR, evSs, evS, evE, evEs, evB, evO, evL, evIt, evTg, evTgs, evC, compS, forS, Res.bind, Res.sr, ok1, ixV, ixK, items, seqOf, dr, lenOk, ixNat, bltV, allInt, allBl, isiV, setI, wipeR, itemAt, Kst.d, bigN, Tgs.len, rngL, cmp_eq_int, cmp_ne_int, cmp_lt_int, cmp_le_int, cmp_gt_int, cmp_ge_int, add_int, sub_int, f_is_shares, is_whole_w ha.1 ha.2, is_whole_w hb.1 hb.2, is_whole_w hc.1 hc.2, hs])
theorem is_shares2 {F n : Nat} {a b : Int} {st : Hs} (ha : 0 ≤ a ∧ a ≤ 9) (hb : 0 ≤ b ∧ b ≤ 9) (hs : 0 < a + b) : CC F (n + 2) i_is_shares [.tup [.int a, .int b], .int 2] st = .ok (.bl true) st := by
  rw [call_eq (f := f_is_shares) rfl]
  refine run_of rfl ?_
  (simp [startR, evSs, evS, evE, evEs, evB, evO, evL, evIt, evTg, evTgs, evC, compS, forS, Res.bind, Res.sr, ok1, ixV, ixK, items, seqOf, dr, lenOk, ixNat, bltV, allInt, allBl, isiV, setI, wipeR, itemAt, Kst.d, bigN, Tgs.len, rngL, cmp_eq_int, cmp_ne_int, cmp_lt_int, cmp_le_int, cmp_gt_int, cmp_ge_int, add_int, sub_int, f_is_shares, is_whole_w ha.1 ha.2, is_whole_w hb.1 hb.2, hs])
/-! ### texts -/
theorem t_end_end : cmpV .eq (.str "end") (.str "end") = some true := by kernel_rfl
theorem t_ranks_end : cmpV .eq (.str "ranks") (.str "end") = some false := by kernel_rfl
theorem t_people_end : cmpV .eq (.str "people") (.str "end") = some false := by kernel_rfl
theorem t_sets_end : cmpV .eq (.str "sets") (.str "end") = some false := by kernel_rfl
theorem t_ranks_sets : cmpV .eq (.str "ranks") (.str "sets") = some false := by kernel_rfl
theorem t_people_sets : cmpV .eq (.str "people") (.str "sets") = some false := by kernel_rfl
theorem t_sets_sets : cmpV .eq (.str "sets") (.str "sets") = some true := by kernel_rfl
theorem t_ranks_in : cmpV .in_ (.str "ranks") (.tup [.str "ranks", .str "people"]) = some true := by kernel_rfl
theorem t_people_in : cmpV .in_ (.str "people") (.tup [.str "ranks", .str "people"]) = some true := by kernel_rfl
theorem tup_nil {x : Str} {ds : List D} (h : (shD 60 (.tup (.str x :: ds))) = true) : cmpV .eq (.tup (.str x :: ds)) (.tup []) = some false := by
  show (if (shD 60 (.tup (.str x :: ds)) && shD 60 (.tup [])) = true then some (eqD (.tup (.str x :: ds)) (.tup [])) else none) = _
  rw [h]
  rfl
theorem is_rule3 {F n : Nat} {a b c : Int} {st : Hs} (ha : 0 ≤ a ∧ a ≤ 9) (hb : 0 ≤ b ∧ b ≤ 9) (hc : 0 ≤ c ∧ c ≤ 9) (hs : 0 < a + (b + c)) : CC F (n + 3) i_is_rule_for [.tup [.str "ranks", .tup [.int a, .int b, .int c]], .int 3] st = .ok (.bl true) st := by
  rw [call_eq (f := f_is_rule_for) rfl]
  refine run_of rfl ?_
  have e : CC F (n + 2) 6 [.tup [.int a, .int b, .int c], .int 3] st = .ok (.bl true) st := is_shares3 ha hb hc hs
  have t := tup_nil (x := "ranks") (ds := [.tup [.int a, .int b, .int c]]) (by kernel_rfl)
  (simp [startR, evSs, evS, evE, evEs, evB, evO, evL, evIt, evTg, evTgs, evC, compS, forS, Res.bind, Res.sr, ok1, ixV, ixK, items, seqOf, dr, lenOk, ixNat, bltV, allInt, allBl, isiV, setI, wipeR, itemAt, Kst.d, bigN, Tgs.len, rngL, cmp_eq_int, cmp_ne_int, cmp_lt_int, cmp_le_int, cmp_gt_int, cmp_ge_int, add_int, sub_int, f_is_rule_for, e, t, t_ranks_end, t_ranks_sets, t_ranks_in])
end U

namespace U
open PySem Rf
/-! ### what is asked of arguments -/
def RuleOk (F : Nat) (R : D) (m : Int) : Prop := ∀ n cs, cs.length ≤ 5 → CC F (n + 3) i_is_rule_for [R, .int m] (dst cs) = .ok (.bl true) (dst cs)
def PlacesOk (F : Nat) (p : D) (m : Int) : Prop := ∀ n st, CC F (n + 2) i_is_places_for [p, .int m] st = .ok (.bl true) st
theorem run_nx {C : Calls} {F : Nat} {f : Fn} {as : List D} {st : Hs} {ρ : Rho} (hl : as.length = f.pars) (h : evSs C F f.body (startR f as) st = .next ρ st) : runFn C F f as st = .ok .non st := run_next hl h
theorem need_people_eq {F n : Nat} {m : Int} {st : Hs} (h1 : 2 ≤ m) (h2 : m ≤ 3) : CC F (n + 2) i_need_people [.int m] st = .ok .non st := by
  rw [call_eq (f := f_need_people) rfl]
  refine run_next (ρ := [some (.int m)]) rfl ?_
  (simp [startR, evSs, evS, evE, evEs, evB, evO, evL, evIt, evTg, evTgs, evC, compS, forS, Res.bind, Res.sr, ok1, ixV, ixK, items, seqOf, dr, lenOk, ixNat, bltV, allInt, allBl, isiV, setI, wipeR, itemAt, Kst.d, bigN, Tgs.len, rngL, cmp_eq_int, cmp_ne_int, cmp_lt_int, cmp_le_int, cmp_gt_int, cmp_ge_int, add_int, sub_int, f_need_people, is_whole_w h1 h2])
theorem need_rule_eq {F n : Nat} {R : D} {m : Int} {cs : List (Int × Int)} (hcs : cs.length ≤ 5) (h : RuleOk F R m) : CC F (n + 4) i_need_rule [.int m, R] (dst cs) = .ok .non (dst cs) := by
  rw [call_eq (f := f_need_rule) rfl]
  refine run_next (ρ := [some (.int m), some R]) rfl ?_
  have e : CC F (n + 3) 7 [R, .int m] (dst cs) = .ok (.bl true) (dst cs) := h n cs hcs
  (simp [startR, evSs, evS, evE, evEs, evB, evO, evL, evIt, evTg, evTgs, evC, compS, forS, Res.bind, Res.sr, ok1, ixV, ixK, items, seqOf, dr, lenOk, ixNat, bltV, allInt, allBl, isiV, setI, wipeR, itemAt, Kst.d, bigN, Tgs.len, rngL, cmp_eq_int, cmp_ne_int, cmp_lt_int, cmp_le_int, cmp_gt_int, cmp_ge_int, add_int, sub_int, f_need_rule, e])
theorem need_places_eq {F n : Nat} {p : D} {m : Int} {st : Hs} (h : PlacesOk F p m) : CC F (n + 3) i_need_places [.int m, p] st = .ok .non st := by
  rw [call_eq (f := f_need_places) rfl]
  refine run_next (ρ := [some (.int m), some p]) rfl ?_
  have e : CC F (n + 2) 9 [p, .int m] st = .ok (.bl true) st := h n st
  (simp [startR, evSs, evS, evE, evEs, evB, evO, evL, evIt, evTg, evTgs, evC, compS, forS, Res.bind, Res.sr, ok1, ixV, ixK, items, seqOf, dr, lenOk, ixNat, bltV, allInt, allBl, isiV, setI, wipeR, itemAt, Kst.d, bigN, Tgs.len, rngL, cmp_eq_int, cmp_ne_int, cmp_lt_int, cmp_le_int, cmp_gt_int, cmp_ge_int, add_int, sub_int, f_need_places, e])
theorem need_all_eq {F n : Nat} {R p : D} {m : Int} {cs : List (Int × Int)} (hcs : cs.length ≤ 5) (h1 : 2 ≤ m) (h2 : m ≤ 3) (hR : RuleOk F R m) (hp : PlacesOk F p m) : CC F (n + 5) i_need_all [.int m, R, p] (dst cs) = .ok .non (dst cs) := by
  rw [call_eq (f := f_need_all) rfl]
  refine run_next (ρ := [some (.int m), some R, some p]) rfl ?_
  have e1 : CC F (n + 4) 3 [.int m] (dst cs) = .ok .non (dst cs) := need_people_eq (n := n + 2) h1 h2
  have e2 : CC F (n + 4) 8 [.int m, R] (dst cs) = .ok .non (dst cs) := need_rule_eq hcs hR
  have e3 : CC F (n + 4) 10 [.int m, p] (dst cs) = .ok .non (dst cs) := need_places_eq (n := n + 1) hp
  (simp [startR, evSs, evS, evE, evEs, evB, evO, evL, evIt, evTg, evTgs, evC, compS, forS, Res.bind, Res.sr, ok1, ixV, ixK, items, seqOf, dr, lenOk, ixNat, bltV, allInt, allBl, isiV, setI, wipeR, itemAt, Kst.d, bigN, Tgs.len, rngL, cmp_eq_int, cmp_ne_int, cmp_lt_int, cmp_le_int, cmp_gt_int, cmp_ge_int, add_int, sub_int, f_need_all, e1, e2, e3])
/-! ### the meeting -/
/-- sum of shares by places; sum of shares -/
def wsum : List Int → List Int → Int
  | x :: xs, a :: as => x * a + wsum xs as
  | _, _ => 0
def dts (xs : List Int) : List D := xs.map .int
/-- shares -/
def ShOk (F : Nat) (R : D) (p s : List Int) : Prop := s.length = p.length ∧ (∀ x ∈ s, 0 ≤ x ∧ x ≤ 9) ∧ 0 < s.sum ∧ ∀ n cs, cs.length ≤ 5 → CC F (n + 3) i_shares_of [R, .tup (dts p)] (dst cs) = .ok (.lst (dts s)) (dst cs)
theorem worth_eq {F n : Nat} {st : Hs} {p s : List Int} (h2 : p.length = 2 ∨ p.length = 3) (hl : s.length = p.length) (hs : ∀ x ∈ s, 0 ≤ x ∧ x ≤ 9) : CC F (n + 1) i_worth [.lst (dts s), .tup (dts p)] st = .ok (.int (wsum s p)) st := by
  have sm : ∀ x ∈ s, x.natAbs < 2 ^ 64 := fun x hx => by have := hs x hx; omega
  match p, s, h2, hl with
  | [a, b], [x, y], _, _ =>
    have := worth2 (F := F) (n := n) (st := st) (a := a) (b := b) (sm x (by simp)) (sm y (by simp))
    simpa [wsum, dts] using this
  | [a, b, c], [x, y, z], _, _ =>
    have := worth3 (F := F) (n := n) (st := st) (a := a) (b := b) (c := c) (sm x (by simp)) (sm y (by simp)) (sm z (by simp))
    simpa [wsum, dts] using this
theorem allInt_dts : ∀ xs : List Int, allInt (dts xs) = some xs
  | [] => rfl
  | x :: xs => by
    show (allInt (dts xs)).map (x :: ·) = _
    rw [allInt_dts xs]
    rfl
theorem meeting_of_eq {F n : Nat} {cs : List (Int × Int)} {R : D} {p s : List Int} (h2 : p.length = 2 ∨ p.length = 3) (hcs : cs.length ≤ 5) (h : ShOk F R p s) : CC F (n + 4) i_meeting_of [R, .tup (dts p)] (dst cs) = .ok (.tup [.int (wsum s p), .int s.sum]) (dst cs) := by
  rw [call_eq (f := f_meeting_of) rfl]
  refine run_of rfl ?_
  have e1 : CC F (n + 3) 13 [R, .tup (dts p)] (dst cs) = .ok (.lst (dts s)) (dst cs) := h.2.2.2 n cs hcs
  have e2 : CC F (n + 3) 1 [.lst (dts s), .tup (dts p)] (dst cs) = .ok (.int (wsum s p)) (dst cs) := worth_eq (n := n + 2) h2 h.1 h.2.1
  (simp [startR, evSs, evS, evE, evEs, evB, evO, evL, evIt, evTg, evTgs, evC, compS, forS, Res.bind, Res.sr, ok1, ixV, ixK, items, seqOf, dr, lenOk, ixNat, bltV, allInt, allBl, isiV, setI, wipeR, itemAt, Kst.d, bigN, Tgs.len, rngL, cmp_eq_int, cmp_ne_int, cmp_lt_int, cmp_le_int, cmp_gt_int, cmp_ge_int, add_int, sub_int, f_meeting_of, e1, e2, allInt_dts])
theorem sum_small {s : List Int} (h : s.length = 2 ∨ s.length = 3) (hs : ∀ x ∈ s, 0 ≤ x ∧ x ≤ 9) : s.sum ≤ 27 := by
  match s, h with
  | [x, y], _ =>
    have h1 := hs x (by simp)
    have h2 := hs y (by simp)
    simp
    omega
  | [x, y, z], _ =>
    have h1 := hs x (by simp)
    have h2 := hs y (by simp)
    have h3 := hs z (by simp)
    simp
    omega
theorem gcd_ok {t b : Int} (h1 : 0 < b) (h2 : b ≤ 27) : divOk (Int.gcd t b) = true := by
  have hb : Int.gcd t b ∣ b.natAbs := Int.gcd_dvd_natAbs_right t b
  have hle := Nat.le_of_dvd (by omega) hb
  have hpos : 0 < Int.gcd t b := Nat.pos_of_ne_zero fun e => by
    have := Int.gcd_eq_zero_iff.mp e
    omega
  unfold divOk
  have e : ((Int.gcd t b : Nat) : Int).natAbs = Int.gcd t b := rfl
  rw [e, decide_eq_true (by omega)]
  have : (Int.gcd t b).log2 < 9000 := by
    have : (Int.gcd t b).log2 ≤ Int.gcd t b := Nat.log2_le_self _
    omega
  show Nat.ble ((Int.gcd t b).log2 + 1) 9000 = true
  exact Nat.ble_eq_true_of_le this
def low (t b : Int) : D := .tup [.int (t / Int.gcd t b), .int (b / Int.gcd t b)]
theorem meeting_eq {F n : Nat} {cs : List (Int × Int)} {R : D} {p s : List Int} {m : Int} (hF : 27 < F) (h2 : p.length = 2 ∨ p.length = 3) (hm : (p.length : Int) = m) (hcs : cs.length ≤ 5) (hR : RuleOk F R m) (hp : PlacesOk F (.tup (dts p)) m) (h : ShOk F R p s) :
    CC F (n + 6) i_meeting [.int m, R, .tup (dts p)] (dst cs) = .ok (low (wsum s p) s.sum) (dst cs) := by
  rw [call_eq (f := f_meeting) rfl]
  refine run_of rfl ?_
  have hsum := sum_small (by rw [h.1]; exact h2) h.2.1
  have hpos := h.2.2.1
  have e1 : CC F (n + 5) 16 [.int m, R, .tup (dts p)] (dst cs) = .ok .non (dst cs) := need_all_eq hcs (by omega) (by omega) hR hp
  have e2 : CC F (n + 5) 15 [R, .tup (dts p)] (dst cs) = .ok (.tup [.int (wsum s p), .int s.sum]) (dst cs) := meeting_of_eq (n := n + 1) h2 hcs h
  have e3 : CC F (n + 5) 14 [.int (wsum s p), .int s.sum] (dst cs) = .ok (low (wsum s p) s.sum) (dst cs) := lowest_eq (n := n + 3) (by omega) (gcd_ok hpos hsum)
  (simp [startR, evSs, evS, evE, evEs, evB, evO, evL, evIt, evTg, evTgs, evC, compS, forS, Res.bind, Res.sr, ok1, ixV, ixK, items, seqOf, dr, lenOk, ixNat, bltV, allInt, allBl, isiV, setI, wipeR, itemAt, Kst.d, bigN, Tgs.len, rngL, cmp_eq_int, cmp_ne_int, cmp_lt_int, cmp_le_int, cmp_gt_int, cmp_ge_int, add_int, sub_int, f_meeting, e1, e2, e3])
theorem abs_int {x : Int} {st : Hs} : bltV .abs [.int x] st = some (.int (if x < 0 then -x else x)) := rfl
def absI (x : Int) : Int := if x < 0 then -x else x
/-- ways: for each place -/
def waysD (s p : List Int) : List D := p.map fun a => low (absI (s.sum * a - wsum s p)) s.sum
theorem ways_eq {F n : Nat} {cs : List (Int × Int)} {R : D} {p s : List Int} {m : Int} (hF : 27 < F) (h2 : p.length = 2 ∨ p.length = 3) (hm : (p.length : Int) = m) (hcs : cs.length ≤ 5) (hR : RuleOk F R m) (hp : PlacesOk F (.tup (dts p)) m) (h : ShOk F R p s) :
    CC F (n + 6) i_ways [.int m, R, .tup (dts p)] (dst cs) = .ok (.tup (waysD s p)) (dst cs) := by
  rw [call_eq (f := f_ways) rfl]
  refine run_of rfl ?_
  have hsum := sum_small (by rw [h.1]; exact h2) h.2.1
  have hpos := h.2.2.1
  have e1 : CC F (n + 5) 16 [.int m, R, .tup (dts p)] (dst cs) = .ok .non (dst cs) := need_all_eq hcs (by omega) (by omega) hR hp
  have e2 : CC F (n + 5) 15 [R, .tup (dts p)] (dst cs) = .ok (.tup [.int (wsum s p), .int s.sum]) (dst cs) := meeting_of_eq (n := n + 1) h2 hcs h
  have e3 : ∀ a : Int, CC F (n + 5) 14 [.int (if s.sum * a - wsum s p < 0 then -(s.sum * a - wsum s p) else s.sum * a - wsum s p), .int s.sum] (dst cs) = .ok (low (absI (s.sum * a - wsum s p)) s.sum) (dst cs) := fun a => lowest_eq (n := n + 3) (by omega) (gcd_ok hpos hsum)
  have e4 : ∀ a : Int, binV .mul (.int s.sum) (.int a) = some (.int (s.sum * a)) := fun a => mul_eq (by omega)
  match p, h2 with
  | [a, b], _ =>
    simp only [dts, List.map_cons, List.map_nil] at e1 e2 ⊢
    (simp [startR, evSs, evS, evE, evEs, evB, evO, evL, evIt, evTg, evTgs, evC, compS, forS, Res.bind, Res.sr, ok1, ixV, ixK, items, seqOf, dr, lenOk, ixNat, bltV, allInt, allBl, isiV, setI, wipeR, itemAt, Kst.d, bigN, Tgs.len, rngL, cmp_eq_int, cmp_ne_int, cmp_lt_int, cmp_le_int, cmp_gt_int, cmp_ge_int, add_int, sub_int, f_ways, waysD, e1, e2, e3, e4])
  | [a, b, c], _ =>
    simp only [dts, List.map_cons, List.map_nil] at e1 e2 ⊢
    (simp [startR, evSs, evS, evE, evEs, evB, evO, evL, evIt, evTg, evTgs, evC, compS, forS, Res.bind, Res.sr, ok1, ixV, ixK, items, seqOf, dr, lenOk, ixNat, bltV, allInt, allBl, isiV, setI, wipeR, itemAt, Kst.d, bigN, Tgs.len, rngL, cmp_eq_int, cmp_ne_int, cmp_lt_int, cmp_le_int, cmp_gt_int, cmp_ge_int, add_int, sub_int, f_ways, waysD, e1, e2, e3, e4])
end U

namespace U
open PySem Rf
/-! ### shares -/
def ordP : List Int → List Int
  | [a, b] => ord2 a b
  | [a, b, c] => ord3 a b c
  | _ => []
theorem order_eq {F n : Nat} {p : List Int} {st : Hs} (h : p.length = 2 ∨ p.length = 3) : CC F (n + 1) i_order_of [.tup (dts p)] st = .ok (.lst (dts (ordP p))) st := by
  match p, h with
  | [a, b], _ =>
    have := order2 (F := F) (n := n) (a := a) (b := b) (st := st)
    simp only [ordP, ord2, dts, List.map_cons, List.map_nil] at this ⊢
    rw [this]
    split <;> rfl
  | [a, b, c], _ => exact order3
def permsN : Nat → List (List Int)
  | 2 => [[1, 0], [0, 1]]
  | 3 => perms3
  | _ => []
theorem ordP_mem {p : List Int} (h : p.length = 2 ∨ p.length = 3) : ordP p ∈ permsN p.length := by
  match p, h with
  | [a, b], _ =>
    show ord2 a b ∈ [[1, 0], [0, 1]]
    unfold ord2
    split <;> simp
  | [a, b, c], _ => exact ord3_mem a b c
/-- put s in the order os -/
def putP (os s : List Int) : List Int := (os.zip s).foldl (fun r q => r.set q.1.toNat q.2) (List.replicate os.length 0)
def unitP (m : Nat) (i : Int) : List Int := (List.replicate m 0).set i.toNat 1
/-- a body of shares_of behind its first row -/
theorem shares_run {F n : Nat} {cs : List (Int × Int)} {R : D} {p s : List Int} (h : p.length = 2 ∨ p.length = 3) {d : D} {st' : Hs}
    (h1 : evSs (CC F (n + 1)) F (tailS f_shares_of.body) [some R, some (.tup (dts p)), some (.lst (dts (ordP p))), none, none, none, none, none] (dst cs) = .ret d st') (h2 : fin true (dst cs).length d st' = .ok (.lst (dts s)) (dst cs)) :
    CC F (n + 2) i_shares_of [R, .tup (dts p)] (dst cs) = .ok (.lst (dts s)) (dst cs) := by
  rw [call_eq (f := f_shares_of) rfl]
  exact run_asg (f := f_shares_of) rfl rfl rfl (order_eq h) h1 h2
theorem shares_ranks {F n : Nat} {cs : List (Int × Int)} {p s : List Int} (h : p.length = 2 ∨ p.length = 3) (hs : s.length = p.length) (hcs : cs.length ≤ 5) :
    CC F (n + 2) i_shares_of [.tup [.str "ranks", .tup (dts s)], .tup (dts p)] (dst cs) = .ok (.lst (dts (putP (ordP p) s))) (dst cs) := by
  have key : ∀ os ∈ permsN p.length, ∀ C : Calls, evSs C F (tailS f_shares_of.body) [some (.tup [.str "ranks", .tup (dts s)]), some (.tup (dts p)), some (.lst (dts os)), none, none, none, none, none] (dst cs) = .ret (.ref cs.length) (dst cs ++ [O.lst (dts (putP os s))]) ∧
      fin true (dst cs).length (.ref cs.length) (dst cs ++ [O.lst (dts (putP os s))]) = .ok (.lst (dts (putP os s))) (dst cs) := by
    intro os hos C
    match p, s, h, hs, hos with
    | [a, b], [x, y], _, _, hos =>
      simp only [permsN, List.length_cons, List.length_nil, List.mem_cons, List.not_mem_nil, or_false] at hos
      rcases hos with rfl | rfl <;>
      · match cs, hcs with
        | [], _ => exact ⟨by kernel_rfl, by kernel_rfl⟩
        | [_], _ => exact ⟨by kernel_rfl, by kernel_rfl⟩
        | [_, _], _ => exact ⟨by kernel_rfl, by kernel_rfl⟩
        | [_, _, _], _ => exact ⟨by kernel_rfl, by kernel_rfl⟩
        | [_, _, _, _], _ => exact ⟨by kernel_rfl, by kernel_rfl⟩
        | [_, _, _, _, _], _ => exact ⟨by kernel_rfl, by kernel_rfl⟩
    | [a, b, c], [x, y, z], _, _, hos =>
      simp only [permsN, perms3, List.length_cons, List.length_nil, List.mem_cons, List.not_mem_nil, or_false] at hos
      rcases hos with rfl | rfl | rfl | rfl | rfl | rfl <;>
      · match cs, hcs with
        | [], _ => exact ⟨by kernel_rfl, by kernel_rfl⟩
        | [_], _ => exact ⟨by kernel_rfl, by kernel_rfl⟩
        | [_, _], _ => exact ⟨by kernel_rfl, by kernel_rfl⟩
        | [_, _, _], _ => exact ⟨by kernel_rfl, by kernel_rfl⟩
        | [_, _, _, _], _ => exact ⟨by kernel_rfl, by kernel_rfl⟩
        | [_, _, _, _, _], _ => exact ⟨by kernel_rfl, by kernel_rfl⟩
  obtain ⟨k1, k2⟩ := key _ (ordP_mem h) (CC F (n + 1))
  exact shares_run h k1 k2
theorem shares_people {F n : Nat} {cs : List (Int × Int)} {p s : List Int} (h : p.length = 2 ∨ p.length = 3) (hs : s.length = p.length) (hcs : cs.length ≤ 5) :
    CC F (n + 2) i_shares_of [.tup [.str "people", .tup (dts s)], .tup (dts p)] (dst cs) = .ok (.lst (dts s)) (dst cs) := by
  have key : ∀ os : D, ∀ C : Calls, evSs C F (tailS f_shares_of.body) [some (.tup [.str "people", .tup (dts s)]), some (.tup (dts p)), some os, none, none, none, none, none] (dst cs) = .ret (.lst (dts s)) (dst cs ++ [O.lst (dts (List.replicate p.length 0))]) ∧
      fin true (dst cs).length (.lst (dts s)) (dst cs ++ [O.lst (dts (List.replicate p.length 0))]) = .ok (.lst (dts s)) (dst cs) := by
    intro os C
    match p, s, h, hs with
    | [a, b], [x, y], _, _ =>
      match cs, hcs with
      | [], _ => exact ⟨by kernel_rfl, by kernel_rfl⟩
      | [_], _ => exact ⟨by kernel_rfl, by kernel_rfl⟩
      | [_, _], _ => exact ⟨by kernel_rfl, by kernel_rfl⟩
      | [_, _, _], _ => exact ⟨by kernel_rfl, by kernel_rfl⟩
      | [_, _, _, _], _ => exact ⟨by kernel_rfl, by kernel_rfl⟩
      | [_, _, _, _, _], _ => exact ⟨by kernel_rfl, by kernel_rfl⟩
    | [a, b, c], [x, y, z], _, _ =>
      match cs, hcs with
      | [], _ => exact ⟨by kernel_rfl, by kernel_rfl⟩
      | [_], _ => exact ⟨by kernel_rfl, by kernel_rfl⟩
      | [_, _], _ => exact ⟨by kernel_rfl, by kernel_rfl⟩
      | [_, _, _], _ => exact ⟨by kernel_rfl, by kernel_rfl⟩
      | [_, _, _, _], _ => exact ⟨by kernel_rfl, by kernel_rfl⟩
      | [_, _, _, _, _], _ => exact ⟨by kernel_rfl, by kernel_rfl⟩
  obtain ⟨k1, k2⟩ := key (.lst (dts (ordP p))) (CC F (n + 1))
  exact shares_run h k1 k2
end U

namespace U
open PySem Rf
/-! ### rules by sets -/
def anti2 : List (List (List Int)) := [[[0]], [[0], [1]], [[0, 1]], [[1]]]
def anti3 : List (List (List Int)) := [[[0]], [[0], [1]], [[0], [1], [2]], [[0], [1, 2]], [[0], [2]], [[0, 1]], [[0, 1], [0, 2]], [[0, 1], [0, 2], [1, 2]], [[0, 1], [1, 2]], [[0, 1], [2]], [[0, 1, 2]], [[0, 2]], [[0, 2], [1]], [[0, 2], [1, 2]], [[1]], [[1], [2]], [[1, 2]], [[2]]]
def antiN : Nat → List (List (List Int))
  | 2 => anti2
  | 3 => anti3
  | _ => []
def setsD (X : List (List Int)) : D := .tup (X.map fun one => .tup (dts one))
def rankOf (os : List Int) (q : Int) : Nat := os.findIdx (· == q)
def setsIx (os : List Int) (X : List (List Int)) : Nat := (X.map fun one => (one.map (rankOf os)).foldl max 0).foldl min 9
def setsAt (os : List Int) (X : List (List Int)) : Int := os.getD (setsIx os X) 0
theorem shares_sets {F n : Nat} {cs : List (Int × Int)} {p : List Int} {X : List (List Int)} (h : p.length = 2 ∨ p.length = 3) (hX : X ∈ antiN p.length) (hcs : cs.length ≤ 5) :
    CC F (n + 2) i_shares_of [.tup [.str "sets", setsD X], .tup (dts p)] (dst cs) = .ok (.lst (dts (unitP p.length (setsAt (ordP p) X)))) (dst cs) := by
  have key : ∀ os ∈ permsN p.length, ∀ C : Calls, evSs C F (tailS f_shares_of.body) [some (.tup [.str "sets", setsD X]), some (.tup (dts p)), some (.lst (dts os)), none, none, none, none, none] (dst cs) = .ret (.ref cs.length) (dst cs ++ [O.lst (dts (unitP p.length (setsAt os X)))]) ∧
      fin true (dst cs).length (.ref cs.length) (dst cs ++ [O.lst (dts (unitP p.length (setsAt os X)))]) = .ok (.lst (dts (unitP p.length (setsAt os X)))) (dst cs) := by
    intro os hos C
    match p, h, hX, hos with
    | [a, b], _, hX, hos =>
      simp only [antiN, anti2, permsN, List.length_cons, List.length_nil, List.mem_cons, List.not_mem_nil, or_false] at hX hos
      match cs, hcs with
      | [], _ => rcases hX with rfl | rfl | rfl | rfl <;> rcases hos with rfl | rfl <;> exact ⟨by kernel_rfl, by kernel_rfl⟩
      | [_], _ => rcases hX with rfl | rfl | rfl | rfl <;> rcases hos with rfl | rfl <;> exact ⟨by kernel_rfl, by kernel_rfl⟩
      | [_, _], _ => rcases hX with rfl | rfl | rfl | rfl <;> rcases hos with rfl | rfl <;> exact ⟨by kernel_rfl, by kernel_rfl⟩
      | [_, _, _], _ => rcases hX with rfl | rfl | rfl | rfl <;> rcases hos with rfl | rfl <;> exact ⟨by kernel_rfl, by kernel_rfl⟩
      | [_, _, _, _], _ => rcases hX with rfl | rfl | rfl | rfl <;> rcases hos with rfl | rfl <;> exact ⟨by kernel_rfl, by kernel_rfl⟩
      | [_, _, _, _, _], _ => rcases hX with rfl | rfl | rfl | rfl <;> rcases hos with rfl | rfl <;> exact ⟨by kernel_rfl, by kernel_rfl⟩
    | [a, b, c], _, hX, hos =>
      simp only [antiN, anti3, permsN, perms3, List.length_cons, List.length_nil, List.mem_cons, List.not_mem_nil, or_false] at hX hos
      match cs, hcs with
      | [], _ => rcases hX with rfl | rfl | rfl | rfl | rfl | rfl | rfl | rfl | rfl | rfl | rfl | rfl | rfl | rfl | rfl | rfl | rfl | rfl <;> rcases hos with rfl | rfl | rfl | rfl | rfl | rfl <;> exact ⟨by kernel_rfl, by kernel_rfl⟩
      | [_], _ => rcases hX with rfl | rfl | rfl | rfl | rfl | rfl | rfl | rfl | rfl | rfl | rfl | rfl | rfl | rfl | rfl | rfl | rfl | rfl <;> rcases hos with rfl | rfl | rfl | rfl | rfl | rfl <;> exact ⟨by kernel_rfl, by kernel_rfl⟩
      | [_, _], _ => rcases hX with rfl | rfl | rfl | rfl | rfl | rfl | rfl | rfl | rfl | rfl | rfl | rfl | rfl | rfl | rfl | rfl | rfl | rfl <;> rcases hos with rfl | rfl | rfl | rfl | rfl | rfl <;> exact ⟨by kernel_rfl, by kernel_rfl⟩
      | [_, _, _], _ => rcases hX with rfl | rfl | rfl | rfl | rfl | rfl | rfl | rfl | rfl | rfl | rfl | rfl | rfl | rfl | rfl | rfl | rfl | rfl <;> rcases hos with rfl | rfl | rfl | rfl | rfl | rfl <;> exact ⟨by kernel_rfl, by kernel_rfl⟩
      | [_, _, _, _], _ => rcases hX with rfl | rfl | rfl | rfl | rfl | rfl | rfl | rfl | rfl | rfl | rfl | rfl | rfl | rfl | rfl | rfl | rfl | rfl <;> rcases hos with rfl | rfl | rfl | rfl | rfl | rfl <;> exact ⟨by kernel_rfl, by kernel_rfl⟩
      | [_, _, _, _, _], _ => rcases hX with rfl | rfl | rfl | rfl | rfl | rfl | rfl | rfl | rfl | rfl | rfl | rfl | rfl | rfl | rfl | rfl | rfl | rfl <;> rcases hos with rfl | rfl | rfl | rfl | rfl | rfl <;> exact ⟨by kernel_rfl, by kernel_rfl⟩
  obtain ⟨k1, k2⟩ := key _ (ordP_mem h) (CC F (n + 1))
  exact shares_run h k1 k2
theorem is_sets_ok {F n : Nat} {cs : List (Int × Int)} {m : Nat} {X : List (List Int)} (hX : X ∈ antiN m) (hm : m = 2 ∨ m = 3) (hcs : cs.length ≤ 5) : CC F (n + 2) i_is_sets [setsD X, .int m] (dst cs) = .ok (.bl true) (dst cs) := by
  rcases hm with rfl | rfl
  · simp only [antiN, anti2, List.mem_cons, List.not_mem_nil, or_false] at hX
    match cs, hcs with
    | [], _ => rcases hX with rfl | rfl | rfl | rfl <;> kernel_rfl
    | [_], _ => rcases hX with rfl | rfl | rfl | rfl <;> kernel_rfl
    | [_, _], _ => rcases hX with rfl | rfl | rfl | rfl <;> kernel_rfl
    | [_, _, _], _ => rcases hX with rfl | rfl | rfl | rfl <;> kernel_rfl
    | [_, _, _, _], _ => rcases hX with rfl | rfl | rfl | rfl <;> kernel_rfl
    | [_, _, _, _, _], _ => rcases hX with rfl | rfl | rfl | rfl <;> kernel_rfl
  · simp only [antiN, anti3, List.mem_cons, List.not_mem_nil, or_false] at hX
    match cs, hcs with
    | [], _ => rcases hX with rfl | rfl | rfl | rfl | rfl | rfl | rfl | rfl | rfl | rfl | rfl | rfl | rfl | rfl | rfl | rfl | rfl | rfl <;> kernel_rfl
    | [_], _ => rcases hX with rfl | rfl | rfl | rfl | rfl | rfl | rfl | rfl | rfl | rfl | rfl | rfl | rfl | rfl | rfl | rfl | rfl | rfl <;> kernel_rfl
    | [_, _], _ => rcases hX with rfl | rfl | rfl | rfl | rfl | rfl | rfl | rfl | rfl | rfl | rfl | rfl | rfl | rfl | rfl | rfl | rfl | rfl <;> kernel_rfl
    | [_, _, _], _ => rcases hX with rfl | rfl | rfl | rfl | rfl | rfl | rfl | rfl | rfl | rfl | rfl | rfl | rfl | rfl | rfl | rfl | rfl | rfl <;> kernel_rfl
    | [_, _, _, _], _ => rcases hX with rfl | rfl | rfl | rfl | rfl | rfl | rfl | rfl | rfl | rfl | rfl | rfl | rfl | rfl | rfl | rfl | rfl | rfl <;> kernel_rfl
    | [_, _, _, _, _], _ => rcases hX with rfl | rfl | rfl | rfl | rfl | rfl | rfl | rfl | rfl | rfl | rfl | rfl | rfl | rfl | rfl | rfl | rfl | rfl <;> kernel_rfl
end U

namespace U
open PySem Rf
/-! ### the nearer end -/
def atP (p : List Int) (i : Int) : Int := p.getD i.toNat 0
/-- whom the nearer end is -/
def endI (p os : List Int) : Int := if os.length = 2 then os.getD 0 0 else if atP p (os.getD 1 0) - atP p (os.getD 0 0) ≤ atP p (os.getD 2 0) - atP p (os.getD 1 0) then os.getD 0 0 else os.getD 2 0
def secondS : Ss → S
  | .cons _ (.cons s _) => s
  | _ => .raise ""
def thirdS : Ss → S
  | .cons _ (.cons _ (.cons s _)) => s
  | _ => .raise ""
theorem end_eq {F n : Nat} {p : List Int} {st : Hs} (h : p.length = 2 ∨ p.length = 3) : CC F (n + 2) i_end_of [.tup (dts p)] st = .ok (.int (endI p (ordP p))) st := by
  rw [call_eq (f := f_end_of) rfl]
  have key : ∀ os ∈ permsN p.length, ∀ C : Calls, evSs C F (tailS f_end_of.body) [some (.tup (dts p)), some (.lst (dts os)), none, none, none] st = .ret (.int (endI p os)) st := by
    intro os hos C
    match p, h, hos with
    | [a, b], _, hos =>
      simp only [permsN, List.length_cons, List.length_nil, List.mem_cons, List.not_mem_nil, or_false] at hos
      rcases hos with rfl | rfl <;> kernel_rfl
    | [a, b, c], _, hos =>
      have e1 : ∀ i j k : Int, ∀ x y z : Int, [i, j, k] ∈ perms3 → atP [a, b, c] i = x → atP [a, b, c] j = y → atP [a, b, c] k = z → evS C F (secondS f_end_of.body) [some (.tup (dts [a, b, c])), some (.lst (dts [i, j, k])), none, none, none] st = .next [some (.tup (dts [a, b, c])), some (.lst (dts [i, j, k])), some (.int x), some (.int y), some (.int z)] st := by
        intro i j k x y z hm hx hy hz
        subst hx hy hz
        simp only [perms3, List.mem_cons, List.cons.injEq, List.not_mem_nil, or_false, and_true] at hm
        rcases hm with ⟨rfl, rfl, rfl⟩ | ⟨rfl, rfl, rfl⟩ | ⟨rfl, rfl, rfl⟩ | ⟨rfl, rfl, rfl⟩ | ⟨rfl, rfl, rfl⟩ | ⟨rfl, rfl, rfl⟩ <;> kernel_rfl
      have e2 : ∀ i j k : Int, ∀ x y z : Int, evSs C F (.cons (thirdS f_end_of.body) .nil) [some (.tup (dts [a, b, c])), some (.lst (dts [i, j, k])), some (.int x), some (.int y), some (.int z)] st = .ret (.int (if y - x ≤ z - y then i else k)) st := by
        intro i j k x y z
        by_cases hle : y - x ≤ z - y
        · (simp [startR, evSs, evS, evE, evEs, evB, evO, evL, evIt, evTg, evTgs, evC, compS, forS, Res.bind, Res.sr, ok1, ixV, ixK, items, seqOf, dr, lenOk, ixNat, bltV, allInt, allBl, isiV, setI, wipeR, itemAt, Kst.d, bigN, Tgs.len, rngL, cmp_eq_int, cmp_ne_int, cmp_lt_int, cmp_le_int, cmp_gt_int, cmp_ge_int, add_int, sub_int, thirdS, f_end_of, dts, hle])
        · (simp [startR, evSs, evS, evE, evEs, evB, evO, evL, evIt, evTg, evTgs, evC, compS, forS, Res.bind, Res.sr, ok1, ixV, ixK, items, seqOf, dr, lenOk, ixNat, bltV, allInt, allBl, isiV, setI, wipeR, itemAt, Kst.d, bigN, Tgs.len, rngL, cmp_eq_int, cmp_ne_int, cmp_lt_int, cmp_le_int, cmp_gt_int, cmp_ge_int, add_int, sub_int, thirdS, f_end_of, dts, hle])
      have hl : ∃ i j k, os = [i, j, k] := by
        simp only [permsN, perms3, List.length_cons, List.length_nil, List.mem_cons, List.not_mem_nil, or_false] at hos
        rcases hos with rfl | rfl | rfl | rfl | rfl | rfl <;> exact ⟨_, _, _, rfl⟩
      obtain ⟨i, j, k, rfl⟩ := hl
      exact (ss_nx (e1 i j k _ _ _ hos rfl rfl rfl)).trans ((e2 i j k _ _ _).trans rfl)
  exact run_asg (f := f_end_of) rfl rfl rfl (order_eq h) (key _ (ordP_mem h) (CC F (n + 1))) fin_same
theorem endI_mem {p : List Int} (h : p.length = 2 ∨ p.length = 3) : 0 ≤ endI p (ordP p) ∧ endI p (ordP p) < p.length := by
  have hm := ordP_mem h
  generalize ordP p = os at hm
  match p, h, hm with
  | [a, b], _, hm =>
    simp only [permsN, List.length_cons, List.length_nil, List.mem_cons, List.not_mem_nil, or_false] at hm
    rcases hm with rfl | rfl <;> simp [endI]
  | [a, b, c], _, hm =>
    simp only [permsN, perms3, List.length_cons, List.length_nil, List.mem_cons, List.not_mem_nil, or_false] at hm
    rcases hm with rfl | rfl | rfl | rfl | rfl | rfl <;> simp [endI] <;> split <;> simp
def fourthS : Ss → S
  | .cons _ (.cons _ (.cons _ (.cons s _))) => s
  | _ => .raise ""
theorem top_get {st : Hs} {o : O} : (st ++ [o])[st.length]? = some o := by simp
theorem top_set {st : Hs} {o o' : O} : (st ++ [o]).set st.length o' = st ++ [o'] := by simp
theorem sub_top {C : Calls} {F k : Nat} {es : Es} {e : E} {d : D} {ρ : Rho} {st : Hs} {xs bs : List D} {i : Int} {j : Nat} (h1 : evE C F e ρ (st ++ [O.lst xs]) = .ok d (st ++ [O.lst xs])) (h0 : ρ[3]? = some (some (.ref st.length))) (h2 : evEs C F es ρ (st ++ [O.lst xs]) = .ok bs (st ++ [O.lst xs])) (h3 : C k bs (st ++ [O.lst xs]) = .ok (.int i) (st ++ [O.lst xs])) (h4 : ixNat xs.length i = some j) :
    evS C F (.asg (.sub (.v 3) (.call k es)) e) ρ (st ++ [O.lst xs]) = .next ρ (st ++ [O.lst (xs.set j d)]) := by
  show (evE C F e ρ (st ++ [O.lst xs])).sr _ = _
  rw [h1]
  show ((evE C F (.v 3) ρ (st ++ [O.lst xs])).bind _).sr _ = _
  have hv : evE C F (.v 3) ρ (st ++ [O.lst xs]) = .ok (.ref st.length) (st ++ [O.lst xs]) := by
    show (match ρ[3]? with | some (some d) => Res.ok d (st ++ [O.lst xs]) | _ => .stuck) = _
    rw [h0]
  rw [hv]
  show (((evEs C F es ρ (st ++ [O.lst xs])).bind fun ds st => C k ds st).bind _).sr _ = _
  rw [h2]
  show ((C k bs (st ++ [O.lst xs])).bind _).sr _ = _
  rw [h3]
  show Res.sr (match (st ++ [O.lst xs])[st.length]? with
    | some (.lst ds) => (match ixNat ds.length i with
      | some j => Res.ok ρ ((st ++ [O.lst xs]).set st.length (.lst (ds.set j d)))
      | none => .stuck)
    | _ => .stuck) _ = _
  rw [top_get]
  dsimp only
  rw [h4]
  dsimp only
  rw [top_set]
  rfl
theorem ife_f {C : Calls} {F : Nat} {c : E} {A B : Ss} {ρ : Rho} {st : Hs} (h : evE C F c ρ st = .ok (.bl false) st) : evS C F (.ife c A B) ρ st = evSs C F B ρ st := by
  show (evE C F c ρ st).sr _ = _
  rw [h]
  rfl
theorem ife_t {C : Calls} {F : Nat} {c : E} {A B : Ss} {ρ : Rho} {st : Hs} (h : evE C F c ρ st = .ok (.bl true) st) : evS C F (.ife c A B) ρ st = evSs C F A ρ st := by
  show (evE C F c ρ st).sr _ = _
  rw [h]
  rfl
theorem ss_one {C : Calls} {F : Nat} {s : S} {ρ ρ' : Rho} {st st' : Hs} (h : evS C F s ρ st = .next ρ' st') : evSs C F (.cons s .nil) ρ st = .next ρ' st' := (ss_nx h).trans rfl
theorem ble_succ (n : Nat) : Nat.ble (n + 1) n = false := by
  cases h : Nat.ble (n + 1) n with
  | false => rfl
  | true => exact absurd (Nat.le_of_ble_eq_true h) (by omega)
theorem optMap_ints {g : D → Option D} (hg : ∀ i, g (.int i) = some (.int i)) : ∀ xs : List Int, optMap g (dts xs) = some (dts xs)
  | [] => rfl
  | x :: xs => by
    show (match g (.int x) with | some y => (optMap g (dts xs)).map (y :: ·) | none => none) = _
    rw [hg, optMap_ints hg xs]
    rfl
theorem fin_dst {cs : List (Int × Int)} {us : List Int} : fin true (dst cs).length (.ref (dst cs).length) (dst cs ++ [O.lst (dts us)]) = .ok (.lst (dts us)) (dst cs) := by
  unfold fin
  rw [List.length_append, show [O.lst (dts us)].length = 1 from rfl, ble_succ, if_neg (by decide), if_pos rfl]
  have hf : frz (dst cs ++ [O.lst (dts us)]) (dst cs).length 12 (.ref (dst cs).length) = some (.lst (dts us)) := by
    show (if Nat.blt (dst cs).length (dst cs).length = true then some (D.ref (dst cs).length) else (match (dst cs ++ [O.lst (dts us)])[(dst cs).length]? with
      | some (.lst ds) => (optMap (frz (dst cs ++ [O.lst (dts us)]) (dst cs).length 11) ds).map D.lst
      | _ => none)) = _
    rw [show Nat.blt (dst cs).length (dst cs).length = false from ble_succ _, if_neg (by decide), top_get]
    dsimp only
    rw [optMap_ints (g := frz (dst cs ++ [O.lst (dts us)]) (dst cs).length 11) fun i => rfl]
    rfl
  rw [hf]
  dsimp only
  rw [List.take_left, if_pos]
  unfold dst
  rw [List.all_map, List.all_eq_true]
  intro c _
  rfl
theorem shares_end {F n : Nat} {cs : List (Int × Int)} {p : List Int} (h : p.length = 2 ∨ p.length = 3) (hcs : cs.length ≤ 5) :
    CC F (n + 3) i_shares_of [.tup [.str "end"], .tup (dts p)] (dst cs) = .ok (.lst (dts (unitP p.length (endI p (ordP p))))) (dst cs) := by
  have hr := endI_mem h
  have he : ∀ st, CC F (n + 2) 12 [.tup (dts p)] st = .ok (.int (endI p (ordP p))) st := fun st => end_eq h
  generalize hos : ordP p = os at hr he
  generalize hi : endI p os = i at hr he
  have key : evSs (CC F (n + 2)) F (tailS f_shares_of.body) [some (.tup [.str "end"]), some (.tup (dts p)), some (.lst (dts os)), none, none, none, none, none] (dst cs) = .ret (.ref (dst cs).length) (dst cs ++ [O.lst (dts (unitP p.length i))]) := by
    have hz : ∃ j, ixNat (dts (List.replicate p.length 0)).length i = some j ∧ (dts (List.replicate p.length 0)).set j (.int 1) = dts (unitP p.length i) := by
      refine ⟨i.toNat, ?_, ?_⟩
      · unfold ixNat
        rw [if_pos hr.1, if_pos (by simp [dts]; exact hr.2)]
      · unfold unitP dts
        rw [List.map_set]
    obtain ⟨j, hj1, hj2⟩ := hz
    have s2 : evS (CC F (n + 2)) F (secondS f_shares_of.body) [some (.tup [.str "end"]), some (.tup (dts p)), some (.lst (dts os)), none, none, none, none, none] (dst cs) = .next [some (.tup [.str "end"]), some (.tup (dts p)), some (.lst (dts os)), some (.ref (dst cs).length), none, none, none, none] (dst cs ++ [O.lst (dts (List.replicate p.length 0))]) := by
      match p, h with
      | [a, b], _ => kernel_rfl
      | [a, b, c], _ => kernel_rfl
    have c1 : ∀ (ρ : Rho) (st : Hs), evE (CC F (n + 2)) F (.cmp .eq (.ix (.v 0) (.k (.int 0))) (.k (.str "people"))) (some (.tup [.str "end"]) :: ρ) st = .ok (.bl false) st := fun ρ st => by kernel_rfl
    have c2 : ∀ (ρ : Rho) (st : Hs), evE (CC F (n + 2)) F (.cmp .eq (.ix (.v 0) (.k (.int 0))) (.k (.str "ranks"))) (some (.tup [.str "end"]) :: ρ) st = .ok (.bl false) st := fun ρ st => by kernel_rfl
    have c3 : ∀ (ρ : Rho) (st : Hs), evE (CC F (n + 2)) F (.cmp .eq (.ix (.v 0) (.k (.int 0))) (.k (.str "sets"))) (some (.tup [.str "end"]) :: ρ) st = .ok (.bl false) st := fun ρ st => by kernel_rfl
    refine (ss_nx s2).trans ((ss_nx ((ife_f (c1 _ _)).trans rfl)).trans ((ss_nx ((ife_f (c2 _ _)).trans (ss_one ((ife_f (c3 _ _)).trans (ss_one (sub_top rfl rfl rfl (he _) hj1)))))).trans ?_))
    rw [show (Kst.int 1).d = D.int 1 from rfl, hj2]
    rfl
  have hf : fin true (dst cs).length (.ref (dst cs).length) (dst cs ++ [O.lst (dts (unitP p.length i))]) = .ok (.lst (dts (unitP p.length i))) (dst cs) := by
    exact fin_dst
  rw [call_eq (f := f_shares_of) rfl]
  exact run_asg (f := f_shares_of) rfl rfl rfl (by rw [← hos]; exact order_eq (n := n + 1) h) key hf
end U

namespace U
open PySem Rf
/-! ### draws -/
theorem log_lt {x n : Nat} (hn : 0 < n) (h : x < 2 ^ n) : x.log2 < n := by
  by_cases h0 : x = 0
  · subst h0
    simpa using hn
  · exact (Nat.log2_lt h0).mpr h
theorem mulOk_log {x y : Int} (hx : x.natAbs < 2 ^ 250) (hy : y.natAbs < 2 ^ 250) : mulOk x y = true := by
  unfold mulOk
  have h1 := log_lt (by decide) hx
  have h2 := log_lt (by decide) hy
  have : Nat.blt (x.natAbs.log2 + y.natAbs.log2) 1000000 = true := by
    show Nat.ble _ _ = true
    exact Nat.ble_eq_true_of_le (by omega)
  rw [this, Bool.or_true]
theorem mul_log {x y : Int} (hx : x.natAbs < 2 ^ 250) (hy : y.natAbs < 2 ^ 250) : binV .mul (.int x) (.int y) = some (.int (x * y)) := by
  show (if mulOk x y = true then some (D.int (x * y)) else none) = _
  rw [if_pos (mulOk_log hx hy)]
theorem mul_r {x y : Int} (h : y.natAbs < 2 ^ 64) : binV .mul (.int x) (.int y) = some (.int (x * y)) := by
  show (if mulOk x y = true then some (D.int (x * y)) else none) = _
  rw [if_pos]
  unfold mulOk
  have : Nat.blt y.natAbs (2 ^ 64) = true := by
    show Nat.ble _ _ = true
    exact Nat.ble_eq_true_of_le h
  rw [this, Bool.or_true, Bool.true_or]
theorem mod_int {x y : Int} (h : 0 < y) : binV .mod (.int x) (.int y) = some (.int (x % y)) := by
  show (if decide (0 < y) = true then some (D.int (x % y)) else none) = _
  rw [if_pos (decide_eq_true h)]
theorem fdiv_int {x y : Int} (h : divOk y = true) : binV .fdiv (.int x) (.int y) = some (.int (x / y)) := by
  show (if divOk y = true then some (D.int (x / y)) else none) = _
  rw [if_pos h]
theorem divOk_of {y : Int} (h1 : 0 < y) (h2 : y.natAbs < 2 ^ 250) : divOk y = true := by
  unfold divOk
  have := log_lt (by decide) h2
  rw [decide_eq_true h1]
  show Nat.ble _ _ = true
  exact Nat.ble_eq_true_of_le (by omega)
theorem drawn_eq {F n : Nat} {c k : Int} {st : Hs} : ∃ v, CC F (n + 1) i__law_drawn [.int c, .int k] st = .ok (.int v) st := by
  rw [call_eq (f := f__law_drawn) rfl]
  have m1 : ∀ x : Int, binV .mul (.int x) (.int 6364136223846793005) = some (.int (x * 6364136223846793005)) := fun x => mul_r (by decide)
  have m2 : ∀ x : Int, binV .mul (.int x) (.int 1442695040888963407) = some (.int (x * 1442695040888963407)) := fun x => mul_r (by decide)
  have q1 : ∀ x : Int, binV .mod (.int x) (.int 340282366920938463463374607431768211507) = some (.int (x % 340282366920938463463374607431768211507)) := fun x => mod_int (by decide)
  have q2 : ∀ x : Int, binV .mod (.int x) (.int 340282366920938463463374607431768211297) = some (.int (x % 340282366920938463463374607431768211297)) := fun x => mod_int (by decide)
  have q3 : ∀ x : Int, binV .mod (.int x) (.int 18446744073709551557) = some (.int (x % 18446744073709551557)) := fun x => mod_int (by decide)
  have d1 : ∀ x : Int, binV .fdiv (.int x) (.int 18446744073709551557) = some (.int (x / 18446744073709551557)) := fun x => fdiv_int (by kernel_rfl)
  generalize hx : (c * 6364136223846793005 + (k + 1) * 1442695040888963407) % 340282366920938463463374607431768211507 = x
  have bx : 0 ≤ x ∧ x < 340282366920938463463374607431768211507 := by omega
  have e3 : binV .mul (.int x) (.int x) = some (.int (x * x)) := mul_log (by omega) (by omega)
  generalize hy : x * x % 340282366920938463463374607431768211297 = y
  have by_ : 0 ≤ y ∧ y < 340282366920938463463374607431768211297 := by omega
  have e4 : binV .mul (.int (y % 18446744073709551557 + 1)) (.int (y / 18446744073709551557 + 1)) = some (.int ((y % 18446744073709551557 + 1) * (y / 18446744073709551557 + 1))) := mul_log (by omega) (by omega)
  have bb : ((y % 18446744073709551557 + 1) * (y / 18446744073709551557 + 1)).natAbs < 2 ^ 250 := by
    rw [Int.natAbs_mul]
    have h1 : (y % 18446744073709551557 + 1).natAbs ≤ 2 ^ 65 := by omega
    have h2 : (y / 18446744073709551557 + 1).natAbs ≤ 2 ^ 130 := by omega
    calc _ ≤ 2 ^ 65 * 2 ^ 130 := Nat.mul_le_mul h1 h2
      _ < 2 ^ 250 := by decide
  have e5 : binV .mul (.int ((y % 18446744073709551557 + 1) * (y / 18446744073709551557 + 1))) (.int y) = some (.int ((y % 18446744073709551557 + 1) * (y / 18446744073709551557 + 1) * y)) := mul_log bb (by omega)
  refine ⟨(y % 18446744073709551557 + 1) * (y / 18446744073709551557 + 1) * y % 340282366920938463463374607431768211507, run_of rfl ?_⟩
  (simp [startR, evSs, evS, evE, evEs, evB, evO, evL, evIt, evTg, evTgs, evC, compS, forS, Res.bind, Res.sr, ok1, ixV, ixK, items, seqOf, dr, lenOk, ixNat, bltV, allInt, allBl, isiV, setI, wipeR, itemAt, Kst.d, bigN, Tgs.len, rngL, cmp_eq_int, cmp_ne_int, cmp_lt_int, cmp_le_int, cmp_gt_int, cmp_ge_int, add_int, sub_int, f__law_drawn, m1, m2, q1, q2, q3, d1, hx, hy, e3, e4, e5])
/-- a roll -/
theorem dst_get {cs : List (Int × Int)} {i : Nat} {x y : Int} (h : cs[i]? = some (x, y)) : (dst cs)[i]? = some (O.lst [.int x, .int y]) := by
  unfold dst
  rw [List.getElem?_map, h]
  rfl
theorem dst_set {cs : List (Int × Int)} {i : Nat} {x y : Int} : (dst cs).set i (O.lst [.int x, .int y]) = dst (cs.set i (x, y)) := by
  unfold dst
  rw [List.map_set]
theorem dst_len {cs : List (Int × Int)} : (dst cs).length = cs.length := by
  unfold dst
  rw [List.length_map]
theorem fin_len {b : Bool} {d : D} {n : Nat} {st : Hs} (h : st.length = n) : fin b n d st = .ok d st := by
  subst h
  exact fin_same
theorem roll_eq {F n i : Nat} {cs : List (Int × Int)} {m : Int} (hi : i < cs.length) (h1 : 0 < m) (h2 : m ≤ 10000000) : ∃ t x y, 0 ≤ t ∧ t < m ∧ CC F (n + 2) i__law_roll [.ref i, .int m] (dst cs) = .ok (.int t) (dst (cs.set i (x, y))) := by
  rw [call_eq (f := f__law_roll) rfl]
  obtain ⟨⟨x, y⟩, hxy⟩ : ∃ c, cs[i]? = some c := ⟨cs[i], List.getElem?_eq_getElem hi⟩
  have g := dst_get hxy
  have hp : binV .pow (.int 10) (.int 18) = some (.int 1000000000000000000) := by kernel_rfl
  have hd : divOk m = true := divOk_of h1 (by omega)
  have hmod : ∀ x : Int, binV .mod (.int x) (.int m) = some (.int (x % m)) := fun x => mod_int h1
  have hdiv : ∀ x : Int, binV .fdiv (.int x) (.int m) = some (.int (x / m)) := fun x => fdiv_int hd
  have hd8 : ∀ x : Int, binV .fdiv (.int x) (.int 8) = some (.int (x / 8)) := fun x => fdiv_int (by kernel_rfl)
  by_cases hx : (1000000000000000000 : Int) ≤ x
  · refine ⟨x % m, x / m, y, Int.emod_nonneg _ (by omega), Int.emod_lt_of_pos _ h1, ?_⟩
    refine run_fin (st' := dst (cs.set i (x / m, y))) (d := .int (x % m)) rfl ?_ (fin_len (by rw [dst_len, dst_len, List.length_set]))
    rw [← dst_set]
    (simp [startR, evSs, evS, evE, evEs, evB, evO, evL, evIt, evTg, evTgs, evC, compS, forS, Res.bind, Res.sr, ok1, ixV, ixK, items, seqOf, dr, lenOk, ixNat, bltV, allInt, allBl, isiV, setI, wipeR, itemAt, Kst.d, bigN, Tgs.len, rngL, cmp_eq_int, cmp_ne_int, cmp_lt_int, cmp_le_int, cmp_gt_int, cmp_ge_int, add_int, sub_int, f__law_roll, g, hp, hx, hmod, hdiv])
  · obtain ⟨v, hv⟩ := drawn_eq (F := F) (n := n) (c := x) (k := y + 1) (st := dst (cs.set i (x, y + 1)))
    refine ⟨v / 8 % m, x, y + 1, Int.emod_nonneg _ (by omega), Int.emod_lt_of_pos _ h1, ?_⟩
    refine run_fin (st' := dst (cs.set i (x, y + 1))) (d := .int (v / 8 % m)) rfl ?_ (fin_len (by rw [dst_len, dst_len, List.length_set]))
    rw [← dst_set] at hv ⊢
    have hlt : i < (dst cs).length := by rw [dst_len]; exact hi
    (simp [startR, evSs, evS, evE, evEs, evB, evO, evL, evIt, evTg, evTgs, evC, compS, forS, Res.bind, Res.sr, ok1, ixV, ixK, items, seqOf, dr, lenOk, ixNat, bltV, allInt, allBl, isiV, setI, wipeR, itemAt, Kst.d, bigN, Tgs.len, rngL, cmp_eq_int, cmp_ne_int, cmp_lt_int, cmp_le_int, cmp_gt_int, cmp_ge_int, add_int, sub_int, f__law_roll, g, hp, hx, hmod, hd8, hv, List.getElem?_set_self hlt])
end U

namespace U
open PySem Rf
theorem roll {F n i : Nat} {cs : List (Int × Int)} {m : Int} (hi : i < cs.length) (h1 : 0 < m) (h2 : m ≤ 10000000) : ∃ t cs', cs'.length = cs.length ∧ 0 ≤ t ∧ t < m ∧ CC F (n + 2) 21 [.ref i, .int m] (dst cs) = .ok (.int t) (dst cs') := by
  obtain ⟨t, x, y, a, b, c⟩ := roll_eq (F := F) (n := n) hi h1 h2
  exact ⟨t, cs.set i (x, y), List.length_set, a, b, c⟩
theorem anti_eq2 {F n : Nat} {cs : List (Int × Int)} (hcs : cs.length ≤ 5) : CC F (n + 2) i__law_antichains [.int 2] (dst cs) = .ok (.lst (anti2.map setsD)) (dst cs) := by
  match cs, hcs with
  | [], _ => kernel_rfl
  | [_], _ => kernel_rfl
  | [_, _], _ => kernel_rfl
  | [_, _, _], _ => kernel_rfl
  | [_, _, _, _], _ => kernel_rfl
  | [_, _, _, _, _], _ => kernel_rfl
theorem anti_eq3 {F n : Nat} {cs : List (Int × Int)} (hcs : cs.length ≤ 5) : CC F (n + 2) i__law_antichains [.int 3] (dst cs) = .ok (.lst (anti3.map setsD)) (dst cs) := by
  match cs, hcs with
  | [], _ => kernel_rfl
  | [_], _ => kernel_rfl
  | [_, _], _ => kernel_rfl
  | [_, _, _], _ => kernel_rfl
  | [_, _, _, _], _ => kernel_rfl
  | [_, _, _, _, _], _ => kernel_rfl
/-! ### what the law draws -/
theorem fin_cs {b : Bool} {d : D} {cs cs' : List (Int × Int)} (h : cs'.length = cs.length) : fin b (dst cs).length d (dst cs') = .ok d (dst cs') := fin_len (by rw [dst_len, dst_len, h])
theorem shares_drawn {F n i : Nat} {cs : List (Int × Int)} {m : Nat} {far : Int} (hm : m = 2 ∨ m = 3) (hi : i < cs.length) (h1 : 1 ≤ far) (h2 : far ≤ 9) : ∃ s cs', cs'.length = cs.length ∧ s.length = m ∧ (∀ x ∈ s, 0 ≤ x ∧ x ≤ 9) ∧ 0 < s.sum ∧
    CC F (n + 3) i__law_shares [.ref i, .int m, .int far] (dst cs) = .ok (.tup (dts s)) (dst cs') := by
  rw [call_eq (f := f__law_shares) rfl]
  rcases hm with rfl | rfl
  · obtain ⟨t1, c1, l1, a1, b1, r1⟩ := roll (F := F) (n := n) (m := far + 1) hi (by omega) (by omega)
    obtain ⟨t2, c2, l2, a2, b2, r2⟩ := roll (F := F) (n := n) (m := far + 1) (i := i) (cs := c1) (by omega) (by omega) (by omega)
    by_cases hs : 0 < t1 + t2
    · refine ⟨[t1, t2], c2, by omega, rfl, fun x hx => ?_, by simpa using hs, ?_⟩
      · simp only [List.mem_cons, List.not_mem_nil, or_false] at hx
        rcases hx with rfl | rfl <;> omega
      · refine run_fin (st' := dst c2) (d := .tup (dts [t1, t2])) rfl ?_ (fin_cs (by omega))
        (simp [startR, evSs, evS, evE, evEs, evB, evO, evL, evIt, evTg, evTgs, evC, compS, forS, Res.bind, Res.sr, ok1, ixV, ixK, items, seqOf, dr, lenOk, ixNat, bltV, allInt, allBl, isiV, setI, wipeR, itemAt, Kst.d, bigN, Tgs.len, rngL, cmp_eq_int, cmp_ne_int, cmp_lt_int, cmp_le_int, cmp_gt_int, cmp_ge_int, add_int, sub_int, f__law_shares, r1, r2, hs, dts])
    · refine ⟨[1, 1], c2, by omega, rfl, fun x hx => ?_, by decide, ?_⟩
      · simp only [List.mem_cons, List.not_mem_nil, or_false] at hx
        rcases hx with rfl | rfl <;> omega
      · have hb : binV .mul (.tup [.int 1]) (.int 2) = some (.tup [.int 1, .int 1]) := by kernel_rfl
        refine run_fin (st' := dst c2) (d := .tup (dts [1, 1])) rfl ?_ (fin_cs (by omega))
        (simp [startR, evSs, evS, evE, evEs, evB, evO, evL, evIt, evTg, evTgs, evC, compS, forS, Res.bind, Res.sr, ok1, ixV, ixK, items, seqOf, dr, lenOk, ixNat, bltV, allInt, allBl, isiV, setI, wipeR, itemAt, Kst.d, bigN, Tgs.len, rngL, cmp_eq_int, cmp_ne_int, cmp_lt_int, cmp_le_int, cmp_gt_int, cmp_ge_int, add_int, sub_int, f__law_shares, r1, r2, hs, dts, hb])
  · obtain ⟨t1, c1, l1, a1, b1, r1⟩ := roll (F := F) (n := n) (m := far + 1) hi (by omega) (by omega)
    obtain ⟨t2, c2, l2, a2, b2, r2⟩ := roll (F := F) (n := n) (m := far + 1) (i := i) (cs := c1) (by omega) (by omega) (by omega)
    obtain ⟨t3, c3, l3, a3, b3, r3⟩ := roll (F := F) (n := n) (m := far + 1) (i := i) (cs := c2) (by omega) (by omega) (by omega)
    by_cases hs : 0 < t1 + (t2 + t3)
    · refine ⟨[t1, t2, t3], c3, by omega, rfl, fun x hx => ?_, by simpa using hs, ?_⟩
      · simp only [List.mem_cons, List.not_mem_nil, or_false] at hx
        rcases hx with rfl | rfl | rfl <;> omega
      · refine run_fin (st' := dst c3) (d := .tup (dts [t1, t2, t3])) rfl ?_ (fin_cs (by omega))
        (simp [startR, evSs, evS, evE, evEs, evB, evO, evL, evIt, evTg, evTgs, evC, compS, forS, Res.bind, Res.sr, ok1, ixV, ixK, items, seqOf, dr, lenOk, ixNat, bltV, allInt, allBl, isiV, setI, wipeR, itemAt, Kst.d, bigN, Tgs.len, rngL, cmp_eq_int, cmp_ne_int, cmp_lt_int, cmp_le_int, cmp_gt_int, cmp_ge_int, add_int, sub_int, f__law_shares, r1, r2, r3, hs, dts])
    · refine ⟨[1, 1, 1], c3, by omega, rfl, fun x hx => ?_, by decide, ?_⟩
      · simp only [List.mem_cons, List.not_mem_nil, or_false] at hx
        rcases hx with rfl | rfl | rfl <;> omega
      · have hb : binV .mul (.tup [.int 1]) (.int 3) = some (.tup [.int 1, .int 1, .int 1]) := by kernel_rfl
        refine run_fin (st' := dst c3) (d := .tup (dts [1, 1, 1])) rfl ?_ (fin_cs (by omega))
        (simp [startR, evSs, evS, evE, evEs, evB, evO, evL, evIt, evTg, evTgs, evC, compS, forS, Res.bind, Res.sr, ok1, ixV, ixK, items, seqOf, dr, lenOk, ixNat, bltV, allInt, allBl, isiV, setI, wipeR, itemAt, Kst.d, bigN, Tgs.len, rngL, cmp_eq_int, cmp_ne_int, cmp_lt_int, cmp_le_int, cmp_gt_int, cmp_ge_int, add_int, sub_int, f__law_shares, r1, r2, r3, hs, dts, hb])
theorem places_drawn {F n i : Nat} {cs : List (Int × Int)} {m : Nat} {far : Int} (hm : m = 2 ∨ m = 3) (hi : i < cs.length) (h1 : 1 ≤ far) (h2 : far ≤ 1000000) : ∃ p cs', cs'.length = cs.length ∧ p.length = m ∧ (∀ x ∈ p, 1 ≤ x ∧ x ≤ far) ∧
    CC F (n + 3) i__law_places [.ref i, .int m, .int far] (dst cs) = .ok (.tup (dts p)) (dst cs') := by
  rw [call_eq (f := f__law_places) rfl]
  rcases hm with rfl | rfl
  · obtain ⟨t1, c1, l1, a1, b1, r1⟩ := roll (F := F) (n := n) (m := far) hi (by omega) (by omega)
    obtain ⟨t2, c2, l2, a2, b2, r2⟩ := roll (F := F) (n := n) (m := far) (i := i) (cs := c1) (by omega) (by omega) (by omega)
    refine ⟨[1 + t1, 1 + t2], c2, by omega, rfl, fun x hx => ?_, ?_⟩
    · simp only [List.mem_cons, List.not_mem_nil, or_false] at hx
      rcases hx with rfl | rfl <;> omega
    · refine run_fin (st' := dst c2) (d := .tup (dts [1 + t1, 1 + t2])) rfl ?_ (fin_cs (by omega))
      (simp [startR, evSs, evS, evE, evEs, evB, evO, evL, evIt, evTg, evTgs, evC, compS, forS, Res.bind, Res.sr, ok1, ixV, ixK, items, seqOf, dr, lenOk, ixNat, bltV, allInt, allBl, isiV, setI, wipeR, itemAt, Kst.d, bigN, Tgs.len, rngL, cmp_eq_int, cmp_ne_int, cmp_lt_int, cmp_le_int, cmp_gt_int, cmp_ge_int, add_int, sub_int, f__law_places, r1, r2, dts])
  · obtain ⟨t1, c1, l1, a1, b1, r1⟩ := roll (F := F) (n := n) (m := far) hi (by omega) (by omega)
    obtain ⟨t2, c2, l2, a2, b2, r2⟩ := roll (F := F) (n := n) (m := far) (i := i) (cs := c1) (by omega) (by omega) (by omega)
    obtain ⟨t3, c3, l3, a3, b3, r3⟩ := roll (F := F) (n := n) (m := far) (i := i) (cs := c2) (by omega) (by omega) (by omega)
    refine ⟨[1 + t1, 1 + t2, 1 + t3], c3, by omega, rfl, fun x hx => ?_, ?_⟩
    · simp only [List.mem_cons, List.not_mem_nil, or_false] at hx
      rcases hx with rfl | rfl | rfl <;> omega
    · refine run_fin (st' := dst c3) (d := .tup (dts [1 + t1, 1 + t2, 1 + t3])) rfl ?_ (fin_cs (by omega))
      (simp [startR, evSs, evS, evE, evEs, evB, evO, evL, evIt, evTg, evTgs, evC, compS, forS, Res.bind, Res.sr, ok1, ixV, ixK, items, seqOf, dr, lenOk, ixNat, bltV, allInt, allBl, isiV, setI, wipeR, itemAt, Kst.d, bigN, Tgs.len, rngL, cmp_eq_int, cmp_ne_int, cmp_lt_int, cmp_le_int, cmp_gt_int, cmp_ge_int, add_int, sub_int, f__law_places, r1, r2, r3, dts])
end U

namespace U
open PySem Rf
/-! ### rules -/
inductive Ru where
  | ranks (s : List Int) | people (s : List Int) | near | sets (X : List (List Int))
def Ru.d : Ru → D
  | .ranks s => .tup [.str "ranks", .tup (dts s)]
  | .people s => .tup [.str "people", .tup (dts s)]
  | .near => .tup [.str "end"]
  | .sets X => .tup [.str "sets", setsD X]
def Ru.Ok (m : Nat) : Ru → Prop
  | .ranks s => s.length = m ∧ (∀ x ∈ s, 0 ≤ x ∧ x ≤ 9) ∧ 0 < s.sum
  | .people s => s.length = m ∧ (∀ x ∈ s, 0 ≤ x ∧ x ≤ 9) ∧ 0 < s.sum
  | .near => True
  | .sets X => X ∈ antiN m
/-- a rule's shares at p -/
def Ru.sh (p : List Int) : Ru → List Int
  | .ranks s => putP (ordP p) s
  | .people s => s
  | .near => unitP p.length (endI p (ordP p))
  | .sets X => unitP p.length (setsAt (ordP p) X)
theorem is_shares_eq {F n : Nat} {st : Hs} {m : Nat} {s : List Int} (hm : m = 2 ∨ m = 3) (h : s.length = m ∧ (∀ x ∈ s, 0 ≤ x ∧ x ≤ 9) ∧ 0 < s.sum) : CC F (n + 2) 6 [.tup (dts s), .int m] st = .ok (.bl true) st := by
  obtain ⟨h1, h2, h3⟩ := h
  rcases hm with rfl | rfl
  · match s, h1 with
    | [x, y], _ => exact is_shares2 (h2 x (by simp)) (h2 y (by simp)) (by simpa using h3)
  · match s, h1 with
    | [x, y, z], _ => exact is_shares3 (h2 x (by simp)) (h2 y (by simp)) (h2 z (by simp)) (by simpa using h3)
theorem sh_dts (n : Nat) : ∀ s : List Int, shDs n (dts s) = true
  | [] => by simp [dts, shDs]
  | x :: s => by
    have := sh_dts n s
    simp only [dts, List.map_cons, shDs, Bool.and_eq_true] at this ⊢
    exact ⟨by simp [shD], this⟩
theorem rule_ok {F m : Nat} {r : Ru} (hm : m = 2 ∨ m = 3) (h : r.Ok m) : RuleOk F r.d m := by
  intro n cs hcs
  rw [call_eq (f := f_is_rule_for) rfl]
  refine run_of rfl ?_
  cases r with
  | ranks s =>
    have e := is_shares_eq (F := F) (n := n) (st := dst cs) hm h
    have t := tup_nil (x := "ranks") (ds := [.tup (dts s)]) (by
      have := sh_dts 58 s
      simp only [shD, shDs, Bool.and_eq_true]
      exact ⟨by kernel_rfl, this, trivial⟩)
    simp only [Ru.d]
    (simp [startR, evSs, evS, evE, evEs, evB, evO, evL, evIt, evTg, evTgs, evC, compS, forS, Res.bind, Res.sr, ok1, ixV, ixK, items, seqOf, dr, lenOk, ixNat, bltV, allInt, allBl, isiV, setI, wipeR, itemAt, Kst.d, bigN, Tgs.len, rngL, cmp_eq_int, cmp_ne_int, cmp_lt_int, cmp_le_int, cmp_gt_int, cmp_ge_int, add_int, sub_int, f_is_rule_for, e, t, t_ranks_end, t_ranks_sets, t_ranks_in])
  | people s =>
    have e := is_shares_eq (F := F) (n := n) (st := dst cs) hm h
    have t := tup_nil (x := "people") (ds := [.tup (dts s)]) (by
      have := sh_dts 58 s
      simp only [shD, shDs, Bool.and_eq_true]
      exact ⟨by kernel_rfl, this, trivial⟩)
    simp only [Ru.d]
    (simp [startR, evSs, evS, evE, evEs, evB, evO, evL, evIt, evTg, evTgs, evC, compS, forS, Res.bind, Res.sr, ok1, ixV, ixK, items, seqOf, dr, lenOk, ixNat, bltV, allInt, allBl, isiV, setI, wipeR, itemAt, Kst.d, bigN, Tgs.len, rngL, cmp_eq_int, cmp_ne_int, cmp_lt_int, cmp_le_int, cmp_gt_int, cmp_ge_int, add_int, sub_int, f_is_rule_for, e, t, t_people_end, t_people_sets, t_people_in])
  | near =>
    have t := tup_nil (x := "end") (ds := []) (by kernel_rfl)
    simp only [Ru.d]
    (simp [startR, evSs, evS, evE, evEs, evB, evO, evL, evIt, evTg, evTgs, evC, compS, forS, Res.bind, Res.sr, ok1, ixV, ixK, items, seqOf, dr, lenOk, ixNat, bltV, allInt, allBl, isiV, setI, wipeR, itemAt, Kst.d, bigN, Tgs.len, rngL, cmp_eq_int, cmp_ne_int, cmp_lt_int, cmp_le_int, cmp_gt_int, cmp_ge_int, add_int, sub_int, f_is_rule_for, t, t_end_end])
  | sets X =>
    have e : CC F (n + 2) 5 [setsD X, .int m] (dst cs) = .ok (.bl true) (dst cs) := is_sets_ok h hm hcs
    have hsh : shD 60 (.tup [.str "sets", setsD X]) = true := by
      have key : ∀ m ∈ [2, 3], (antiN m).all (fun X => shD 60 (.tup [.str "sets", setsD X])) = true := by decide +kernel
      exact List.all_eq_true.mp (key m (by rcases hm with rfl | rfl <;> simp)) X h
    have t := tup_nil (x := "sets") (ds := [setsD X]) hsh
    simp only [Ru.d]
    (simp [startR, evSs, evS, evE, evEs, evB, evO, evL, evIt, evTg, evTgs, evC, compS, forS, Res.bind, Res.sr, ok1, ixV, ixK, items, seqOf, dr, lenOk, ixNat, bltV, allInt, allBl, isiV, setI, wipeR, itemAt, Kst.d, bigN, Tgs.len, rngL, cmp_eq_int, cmp_ne_int, cmp_lt_int, cmp_le_int, cmp_gt_int, cmp_ge_int, add_int, sub_int, f_is_rule_for, e, t, t_sets_end, t_sets_sets])
theorem putP_ok {m : Nat} {os s : List Int} (hm : m = 2 ∨ m = 3) (ho : os ∈ permsN m) (hs : s.length = m) : (putP os s).length = m ∧ (∀ x ∈ putP os s, x ∈ s) ∧ (putP os s).sum = s.sum := by
  rcases hm with rfl | rfl
  · match s, hs with
    | [x, y], _ =>
      simp only [permsN, List.mem_cons, List.not_mem_nil, or_false] at ho
      rcases ho with rfl | rfl <;> simp [putP] <;> omega
  · match s, hs with
    | [x, y, z], _ =>
      simp only [permsN, perms3, List.mem_cons, List.not_mem_nil, or_false] at ho
      rcases ho with rfl | rfl | rfl | rfl | rfl | rfl <;> simp [putP] <;> omega
theorem unitP_ok {m : Nat} {i : Int} (hm : m = 2 ∨ m = 3) (h0 : 0 ≤ i) (h1 : i < m) : (unitP m i).length = m ∧ (∀ x ∈ unitP m i, 0 ≤ x ∧ x ≤ 9) ∧ (unitP m i).sum = 1 := by
  have : i = 0 ∨ i = 1 ∨ (i = 2 ∧ m = 3) := by omega
  rcases hm with rfl | rfl <;> rcases this with rfl | rfl | ⟨rfl, h⟩ <;> first | omega | (simp [unitP, List.replicate])
theorem setsAt_mem {m : Nat} {os : List Int} {X : List (List Int)} (hm : m = 2 ∨ m = 3) (ho : os ∈ permsN m) (hX : X ∈ antiN m) : 0 ≤ setsAt os X ∧ setsAt os X < m := by
  have key : ∀ m ∈ [2, 3], (permsN m).all (fun os => (antiN m).all fun X => decide (0 ≤ setsAt os X) && decide (setsAt os X < m)) = true := by decide +kernel
  have := key m (by rcases hm with rfl | rfl <;> simp)
  have := List.all_eq_true.mp (List.all_eq_true.mp this os ho) X hX
  simpa using this
theorem sh_ok {F : Nat} {r : Ru} {p : List Int} (hp : p.length = 2 ∨ p.length = 3) (h : r.Ok p.length) : ShOk F r.d p (r.sh p) := by
  cases r with
  | ranks s =>
    obtain ⟨h1, h2, h3⟩ := h
    obtain ⟨a, b, c⟩ := putP_ok hp (ordP_mem hp) h1
    exact ⟨a, fun x hx => h2 x (b x hx), by show 0 < (putP _ _).sum; rw [c]; exact h3, fun n cs hcs => shares_ranks (n := n + 1) hp h1 hcs⟩
  | people s =>
    obtain ⟨h1, h2, h3⟩ := h
    exact ⟨h1, h2, h3, fun n cs hcs => shares_people (n := n + 1) hp h1 hcs⟩
  | near =>
    obtain ⟨a, b⟩ := endI_mem hp
    obtain ⟨x, y, z⟩ := unitP_ok hp a b
    exact ⟨x, y, by show 0 < (unitP _ _).sum; rw [z]; decide, fun n cs hcs => shares_end hp hcs⟩
  | sets X =>
    obtain ⟨a, b⟩ := setsAt_mem hp (ordP_mem hp) h
    obtain ⟨x, y, z⟩ := unitP_ok hp a b
    exact ⟨x, y, by show 0 < (unitP _ _).sum; rw [z]; decide, fun n cs hcs => shares_sets (n := n + 1) hp h hcs⟩
end U

namespace U
open PySem Rf
theorem rule_drawn {F n i : Nat} {cs : List (Int × Int)} {m : Nat} (hm : m = 2 ∨ m = 3) (hi : i < cs.length) (hcs : cs.length ≤ 5) : ∃ r cs', cs'.length = cs.length ∧ Ru.Ok m r ∧ CC F (n + 4) i__law_rule [.ref i, .int m] (dst cs) = .ok r.d (dst cs') := by
  rw [call_eq (f := f__law_rule) rfl]
  obtain ⟨t1, c1, l1, a1, b1, r1⟩ := roll (F := F) (n := n + 1) (m := 5) hi (by decide) (by decide)
  have hi1 : i < c1.length := by omega
  by_cases h2 : t1 < 2
  · obtain ⟨t2, c2, l2, a2, b2, r2⟩ := roll (F := F) (n := n + 1) (m := 2) hi1 (by decide) (by decide)
    have hi2 : i < c2.length := by omega
    have ht1 : t1 = 0 ∨ t1 = 1 := by omega
    have ht2 : t2 = 0 ∨ t2 = 1 := by omega
    rcases ht2 with rfl | rfl
    · obtain ⟨s, c3, l3, e1, e2, e3, r3⟩ := shares_drawn (F := F) (n := n) (far := 1) hm hi2 (by decide) (by decide)
      have r3 : CC F (n + 3) 25 [.ref i, .int m, .int 1] (dst c2) = .ok (.tup (dts s)) (dst c3) := r3
      rcases ht1 with rfl | rfl
      · refine ⟨.ranks s, c3, by omega, ⟨e1, e2, e3⟩, run_fin (st' := dst c3) (d := (Ru.ranks s).d) rfl ?_ (fin_cs (by omega))⟩
        simp only [Ru.d]
        (simp [startR, evSs, evS, evE, evEs, evB, evO, evL, evIt, evTg, evTgs, evC, compS, forS, Res.bind, Res.sr, ok1, ixV, ixK, items, seqOf, dr, lenOk, ixNat, bltV, allInt, allBl, isiV, setI, wipeR, itemAt, Kst.d, bigN, Tgs.len, rngL, cmp_eq_int, cmp_ne_int, cmp_lt_int, cmp_le_int, cmp_gt_int, cmp_ge_int, add_int, sub_int, f__law_rule, r1, r2, r3])
      · refine ⟨.people s, c3, by omega, ⟨e1, e2, e3⟩, run_fin (st' := dst c3) (d := (Ru.people s).d) rfl ?_ (fin_cs (by omega))⟩
        simp only [Ru.d]
        (simp [startR, evSs, evS, evE, evEs, evB, evO, evL, evIt, evTg, evTgs, evC, compS, forS, Res.bind, Res.sr, ok1, ixV, ixK, items, seqOf, dr, lenOk, ixNat, bltV, allInt, allBl, isiV, setI, wipeR, itemAt, Kst.d, bigN, Tgs.len, rngL, cmp_eq_int, cmp_ne_int, cmp_lt_int, cmp_le_int, cmp_gt_int, cmp_ge_int, add_int, sub_int, f__law_rule, r1, r2, r3])
    · obtain ⟨s, c3, l3, e1, e2, e3, r3⟩ := shares_drawn (F := F) (n := n) (far := 3) hm hi2 (by decide) (by decide)
      have r3 : CC F (n + 3) 25 [.ref i, .int m, .int 3] (dst c2) = .ok (.tup (dts s)) (dst c3) := r3
      rcases ht1 with rfl | rfl
      · refine ⟨.ranks s, c3, by omega, ⟨e1, e2, e3⟩, run_fin (st' := dst c3) (d := (Ru.ranks s).d) rfl ?_ (fin_cs (by omega))⟩
        simp only [Ru.d]
        (simp [startR, evSs, evS, evE, evEs, evB, evO, evL, evIt, evTg, evTgs, evC, compS, forS, Res.bind, Res.sr, ok1, ixV, ixK, items, seqOf, dr, lenOk, ixNat, bltV, allInt, allBl, isiV, setI, wipeR, itemAt, Kst.d, bigN, Tgs.len, rngL, cmp_eq_int, cmp_ne_int, cmp_lt_int, cmp_le_int, cmp_gt_int, cmp_ge_int, add_int, sub_int, f__law_rule, r1, r2, r3])
      · refine ⟨.people s, c3, by omega, ⟨e1, e2, e3⟩, run_fin (st' := dst c3) (d := (Ru.people s).d) rfl ?_ (fin_cs (by omega))⟩
        simp only [Ru.d]
        (simp [startR, evSs, evS, evE, evEs, evB, evO, evL, evIt, evTg, evTgs, evC, compS, forS, Res.bind, Res.sr, ok1, ixV, ixK, items, seqOf, dr, lenOk, ixNat, bltV, allInt, allBl, isiV, setI, wipeR, itemAt, Kst.d, bigN, Tgs.len, rngL, cmp_eq_int, cmp_ne_int, cmp_lt_int, cmp_le_int, cmp_gt_int, cmp_ge_int, add_int, sub_int, f__law_rule, r1, r2, r3])
  · by_cases h3 : t1 = 2
    · subst h3
      refine ⟨.near, c1, l1, trivial, run_fin (st' := dst c1) (d := Ru.near.d) rfl ?_ (fin_cs l1)⟩
      simp only [Ru.d]
      (simp [startR, evSs, evS, evE, evEs, evB, evO, evL, evIt, evTg, evTgs, evC, compS, forS, Res.bind, Res.sr, ok1, ixV, ixK, items, seqOf, dr, lenOk, ixNat, bltV, allInt, allBl, isiV, setI, wipeR, itemAt, Kst.d, bigN, Tgs.len, rngL, cmp_eq_int, cmp_ne_int, cmp_lt_int, cmp_le_int, cmp_gt_int, cmp_ge_int, add_int, sub_int, f__law_rule, r1])
    · have h3' : (t1 == 2) = false := by simpa using h3
      rcases hm with rfl | rfl
      · obtain ⟨t2, c2, l2, a2, b2, r2⟩ := roll (F := F) (n := n + 1) (m := 4) hi1 (by decide) (by decide)
        have ra : CC F (n + 3) 24 [.int 2] (dst c1) = .ok (.lst (anti2.map setsD)) (dst c1) := anti_eq2 (n := n + 1) (by omega)
        have hg : ∃ X, X ∈ antiN 2 ∧ anti2[t2.toNat]? = some X := by
          have : t2.toNat < anti2.length := by simp [anti2]; omega
          exact ⟨anti2[t2.toNat], List.getElem_mem this, List.getElem?_eq_getElem this⟩
        obtain ⟨X, hX, hX2⟩ := hg
        have hix : ∀ st, ixV st (.lst (anti2.map setsD)) (.int t2) = some (setsD X) := by
          intro st
          show (if lenOk (anti2.map setsD) = true then (match ixNat (anti2.map setsD).length t2 with | some j => (anti2.map setsD)[j]? | none => none) else none) = _
          rw [if_pos (by decide +kernel)]
          have : ixNat (anti2.map setsD).length t2 = some t2.toNat := by
            unfold ixNat
            rw [if_pos a2, if_pos (by simp [anti2]; omega)]
          rw [this]
          show (anti2.map setsD)[t2.toNat]? = _
          rw [List.getElem?_map, hX2]
          rfl
        have hlen : (anti2.map setsD).length = 4 := rfl
        refine ⟨.sets X, c2, by omega, hX, run_fin (st' := dst c2) (d := (Ru.sets X).d) rfl ?_ (fin_cs (by omega))⟩
        simp only [Ru.d]
        generalize anti2.map setsD = rows at ra hix hlen
        simp [startR, evSs, evS, evE, evEs, evTg, Res.bind, Res.sr, ok1, ixK, bltV, dr, setI, Kst.d, cmp_lt_int, cmp_eq_int, f__law_rule, r1, h2, h3', ra, hlen, r2, hix]
      · obtain ⟨t2, c2, l2, a2, b2, r2⟩ := roll (F := F) (n := n + 1) (m := 18) hi1 (by decide) (by decide)
        have ra : CC F (n + 3) 24 [.int 3] (dst c1) = .ok (.lst (anti3.map setsD)) (dst c1) := anti_eq3 (n := n + 1) (by omega)
        have hg : ∃ X, X ∈ antiN 3 ∧ anti3[t2.toNat]? = some X := by
          have : t2.toNat < anti3.length := by simp [anti3]; omega
          exact ⟨anti3[t2.toNat], List.getElem_mem this, List.getElem?_eq_getElem this⟩
        obtain ⟨X, hX, hX2⟩ := hg
        have hix : ∀ st, ixV st (.lst (anti3.map setsD)) (.int t2) = some (setsD X) := by
          intro st
          show (if lenOk (anti3.map setsD) = true then (match ixNat (anti3.map setsD).length t2 with | some j => (anti3.map setsD)[j]? | none => none) else none) = _
          rw [if_pos (by decide +kernel)]
          have : ixNat (anti3.map setsD).length t2 = some t2.toNat := by
            unfold ixNat
            rw [if_pos a2, if_pos (by simp [anti3]; omega)]
          rw [this]
          show (anti3.map setsD)[t2.toNat]? = _
          rw [List.getElem?_map, hX2]
          rfl
        have hlen : (anti3.map setsD).length = 18 := rfl
        refine ⟨.sets X, c2, by omega, hX, run_fin (st' := dst c2) (d := (Ru.sets X).d) rfl ?_ (fin_cs (by omega))⟩
        simp only [Ru.d]
        generalize anti3.map setsD = rows at ra hix hlen
        simp [startR, evSs, evS, evE, evEs, evTg, Res.bind, Res.sr, ok1, ixK, bltV, dr, setI, Kst.d, cmp_lt_int, cmp_eq_int, f__law_rule, r1, h2, h3', ra, hlen, r2, hix]
end U

namespace U
open PySem Rf
/-! ### plain facts -/
theorem ord2_shift (a b f : Int) : ord2 (a + f) (b + f) = ord2 a b := by
  unfold ord2
  have : (b + f < a + f) ↔ b < a := by omega
  simp only [this]
theorem ord3_shift (a b c f : Int) : ord3 (a + f) (b + f) (c + f) = ord3 a b c := by
  unfold ord3
  have h1 : (c + f < b + f) ↔ c < b := by omega
  have h2 : (c + f < a + f) ↔ c < a := by omega
  have h3 : (b + f < a + f) ↔ b < a := by omega
  simp only [h1, h2, h3]
theorem mul_lt_iff {k a b : Int} (hk : 0 < k) : (k * b < k * a) ↔ b < a := ⟨fun h => Int.lt_of_mul_lt_mul_left h (by omega), fun h => Int.mul_lt_mul_of_pos_left h hk⟩
theorem mul_le_iff {k a b : Int} (hk : 0 < k) : (k * b ≤ k * a) ↔ b ≤ a := ⟨fun h => Int.le_of_mul_le_mul_left h hk, fun h => Int.mul_le_mul_of_nonneg_left h (by omega)⟩
theorem ord2_scale {k : Int} (hk : 0 < k) (a b : Int) : ord2 (k * a) (k * b) = ord2 a b := by
  unfold ord2
  simp only [mul_lt_iff hk]
theorem ord3_scale {k : Int} (hk : 0 < k) (a b c : Int) : ord3 (k * a) (k * b) (k * c) = ord3 a b c := by
  unfold ord3
  simp only [mul_lt_iff hk]
theorem ordP_shift {p : List Int} (h : p.length = 2 ∨ p.length = 3) (f : Int) : ordP (p.map (· + f)) = ordP p := by
  match p, h with
  | [a, b], _ => exact ord2_shift a b f
  | [a, b, c], _ => exact ord3_shift a b c f
theorem ordP_scale {p : List Int} (h : p.length = 2 ∨ p.length = 3) {k : Int} (hk : 0 < k) : ordP (p.map (k * ·)) = ordP p := by
  match p, h with
  | [a, b], _ => exact ord2_scale hk a b
  | [a, b, c], _ => exact ord3_scale hk a b c
theorem endI_shift {p : List Int} (h : p.length = 2 ∨ p.length = 3) {os : List Int} (ho : os ∈ permsN p.length) (f : Int) : endI (p.map (· + f)) os = endI p os := by
  match p, h, ho with
  | [a, b], _, ho =>
    simp only [permsN, List.length_cons, List.length_nil, List.mem_cons, List.not_mem_nil, or_false] at ho
    rcases ho with rfl | rfl <;> rfl
  | [a, b, c], _, ho =>
    simp only [permsN, perms3, List.length_cons, List.length_nil, List.mem_cons, List.not_mem_nil, or_false] at ho
    rcases ho with rfl | rfl | rfl | rfl | rfl | rfl <;> simp only [endI, atP, List.map_cons, List.map_nil, List.length_cons, List.length_nil] <;> simp <;> congr 1 <;> simp <;> omega
theorem endI_scale {p : List Int} (h : p.length = 2 ∨ p.length = 3) {os : List Int} (ho : os ∈ permsN p.length) {k : Int} (hk : 0 < k) : endI (p.map (k * ·)) os = endI p os := by
  have e : ∀ x y z : Int, (k * y - k * x ≤ k * z - k * y) ↔ y - x ≤ z - y := fun x y z => by
    rw [← Int.mul_sub, ← Int.mul_sub]
    exact mul_le_iff hk
  match p, h, ho with
  | [a, b], _, ho =>
    simp only [permsN, List.length_cons, List.length_nil, List.mem_cons, List.not_mem_nil, or_false] at ho
    rcases ho with rfl | rfl <;> rfl
  | [a, b, c], _, ho =>
    simp only [permsN, perms3, List.length_cons, List.length_nil, List.mem_cons, List.not_mem_nil, or_false] at ho
    rcases ho with rfl | rfl | rfl | rfl | rfl | rfl <;> simp [endI, atP, e]
theorem sh_shift {p : List Int} (h : p.length = 2 ∨ p.length = 3) (r : Ru) (f : Int) : r.sh (p.map (· + f)) = r.sh p := by
  cases r with
  | ranks s => simp only [Ru.sh, ordP_shift h]
  | people s => rfl
  | near => simp only [Ru.sh, ordP_shift h, List.length_map, endI_shift h (ordP_mem h)]
  | sets X => simp only [Ru.sh, ordP_shift h, List.length_map]
theorem sh_scale {p : List Int} (h : p.length = 2 ∨ p.length = 3) (r : Ru) {k : Int} (hk : 0 < k) : r.sh (p.map (k * ·)) = r.sh p := by
  cases r with
  | ranks s => simp only [Ru.sh, ordP_scale h hk]
  | people s => rfl
  | near => simp only [Ru.sh, ordP_scale h hk, List.length_map, endI_scale h (ordP_mem h) hk]
  | sets X => simp only [Ru.sh, ordP_scale h hk, List.length_map]
theorem wsum_shift : ∀ (s p : List Int) (f : Int), s.length = p.length → wsum s (p.map (· + f)) = wsum s p + f * s.sum
  | [], [], f, _ => by simp [wsum]
  | x :: s, a :: p, f, h => by
    have ih := wsum_shift s p f (by simpa using h)
    simp only [wsum, List.map_cons, List.sum_cons, ih, Int.mul_add]
    rw [Int.mul_comm x f]
    omega
  | [], _ :: _, _, h => by simp at h
  | _ :: _, [], _, h => by simp at h
theorem wsum_scale : ∀ (s p : List Int) (k : Int), wsum s (p.map (k * ·)) = k * wsum s p
  | [], p, k => by simp [wsum]
  | _ :: _, [], k => by simp [wsum]
  | x :: s, a :: p, k => by
    have ih := wsum_scale s p k
    simp only [wsum, List.map_cons, ih, Int.mul_add]
    rw [Int.mul_left_comm x k a]
/-- lowest terms -/
theorem gcd_pos {t b : Int} (h : 0 < b) : (0 : Int) < Int.gcd t b := by
  have : Int.gcd t b ≠ 0 := fun e => by
    have := Int.gcd_eq_zero_iff.mp e
    omega
  omega
theorem low_t (t b : Int) : t / Int.gcd t b * Int.gcd t b = t := Int.ediv_mul_cancel (Int.gcd_dvd_left ..)
theorem low_b (t b : Int) : b / Int.gcd t b * Int.gcd t b = b := Int.ediv_mul_cancel (Int.gcd_dvd_right ..)
/-- t/b = u/c by lowest terms -/
theorem cross {t b u c : Int} (hb : 0 < b) (hc : 0 < c) (h : t * c = u * b) : t / Int.gcd t b * (c / Int.gcd u c) = u / Int.gcd u c * (b / Int.gcd t b) := by
  have g1 := gcd_pos (t := t) hb
  have g2 := gcd_pos (t := u) hc
  apply Int.eq_of_mul_eq_mul_right (a := (Int.gcd t b : Int) * Int.gcd u c) (by
    have := Int.mul_pos g1 g2
    omega)
  have e1 : t / Int.gcd t b * (c / Int.gcd u c) * ((Int.gcd t b : Int) * Int.gcd u c) = (t / Int.gcd t b * Int.gcd t b) * (c / Int.gcd u c * Int.gcd u c) := by
    simp only [Int.mul_assoc, Int.mul_left_comm, Int.mul_comm]
  have e2 : u / Int.gcd u c * (b / Int.gcd t b) * ((Int.gcd t b : Int) * Int.gcd u c) = (u / Int.gcd u c * Int.gcd u c) * (b / Int.gcd t b * Int.gcd t b) := by
    simp only [Int.mul_assoc, Int.mul_left_comm, Int.mul_comm]
  rw [e1, e2, low_t, low_b, low_t, low_b, h]
theorem crossG {X hi g' Y bo g S B : Int} (h1 : X * g' = S) (h2 : hi * g' = B) (h3 : Y * g = S) (h4 : bo * g = B) (hg : 0 < g) (hg' : 0 < g') : X * bo = Y * hi := by
  apply Int.eq_of_mul_eq_mul_right (a := g * g') (by
    have := Int.mul_pos hg hg'
    omega)
  have e1 : X * bo * (g * g') = (X * g') * (bo * g) := by simp only [Int.mul_assoc, Int.mul_left_comm, Int.mul_comm]
  have e2 : Y * hi * (g * g') = (Y * g) * (hi * g') := by simp only [Int.mul_assoc, Int.mul_left_comm, Int.mul_comm]
  rw [e1, e2, h1, h2, h3, h4]
theorem crossLe {X hi g' Y bo g S S' B : Int} (h1 : X * g' = S') (h2 : hi * g' = B) (h3 : Y * g = S) (h4 : bo * g = B) (hg : 0 < g) (hg' : 0 < g') (hB : 0 < B) (h : S ≤ S') : Y * hi ≤ X * bo := by
  have hp := Int.mul_pos hg hg'
  refine Int.le_of_mul_le_mul_right (?_ : Y * hi * (g * g') ≤ X * bo * (g * g')) hp
  have e1 : X * bo * (g * g') = (X * g') * (bo * g) := by simp only [Int.mul_assoc, Int.mul_left_comm, Int.mul_comm]
  have e2 : Y * hi * (g * g') = (Y * g) * (hi * g') := by simp only [Int.mul_assoc, Int.mul_left_comm, Int.mul_comm]
  rw [e1, e2, h1, h2, h3, h4]
  exact Int.mul_le_mul_of_nonneg_right h (by omega)
theorem divLe {a g S B bo to : Int} (h3 : to * g = S) (h4 : bo * g = B) (hg : 0 < g) (h : a * B ≤ S) : a * bo ≤ to := by
  refine Int.le_of_mul_le_mul_right (?_ : a * bo * g ≤ to * g) hg
  rw [Int.mul_assoc, h4, h3]
  exact h
theorem leDiv {a g S B bo to : Int} (h3 : to * g = S) (h4 : bo * g = B) (hg : 0 < g) (h : S ≤ a * B) : to ≤ a * bo := by
  refine Int.le_of_mul_le_mul_right (?_ : to * g ≤ a * bo * g) hg
  rw [Int.mul_assoc, h4, h3]
  exact h
theorem wsum_ge : ∀ (s p : List Int) (m : Int), s.length = p.length → (∀ x ∈ s, 0 ≤ x) → (∀ a ∈ p, m ≤ a) → m * s.sum ≤ wsum s p
  | [], [], m, _, _, _ => by simp [wsum]
  | x :: s, a :: p, m, h, h1, h2 => by
    have ih := wsum_ge s p m (by simpa using h) (fun y hy => h1 y (List.mem_cons_of_mem _ hy)) fun y hy => h2 y (List.mem_cons_of_mem _ hy)
    have h3 : x * m ≤ x * a := Int.mul_le_mul_of_nonneg_left (h2 a List.mem_cons_self) (h1 x List.mem_cons_self)
    simp only [wsum, List.sum_cons, Int.mul_add]
    rw [Int.mul_comm m x]
    omega
  | [], _ :: _, _, h, _, _ => by simp at h
  | _ :: _, [], _, h, _, _ => by simp at h
theorem wsum_le : ∀ (s p : List Int) (m : Int), s.length = p.length → (∀ x ∈ s, 0 ≤ x) → (∀ a ∈ p, a ≤ m) → wsum s p ≤ m * s.sum
  | [], [], m, _, _, _ => by simp [wsum]
  | x :: s, a :: p, m, h, h1, h2 => by
    have ih := wsum_le s p m (by simpa using h) (fun y hy => h1 y (List.mem_cons_of_mem _ hy)) fun y hy => h2 y (List.mem_cons_of_mem _ hy)
    have h3 : x * a ≤ x * m := Int.mul_le_mul_of_nonneg_left (h2 a List.mem_cons_self) (h1 x List.mem_cons_self)
    simp only [wsum, List.sum_cons, Int.mul_add]
    rw [Int.mul_comm m x]
    omega
  | [], _ :: _, _, h, _, _ => by simp at h
  | _ :: _, [], _, h, _, _ => by simp at h
end U

namespace U
open PySem Rf
/-! ### sorted places -/
def srtP (p : List Int) : List Int := (ordP p).map (atP p)
theorem srt_rev {p : List Int} (h : p.length = 2 ∨ p.length = 3) : srtP p.reverse = srtP p := by
  match p, h with
  | [a, b], _ =>
    simp only [srtP, ordP, ord2, List.reverse_cons, List.reverse_nil, List.nil_append, List.cons_append]
    split <;> split <;> simp [atP] <;> omega
  | [a, b, c], _ =>
    simp only [srtP, ordP, ord3, List.reverse_cons, List.reverse_nil, List.nil_append, List.cons_append]
    repeat' split
    all_goals (simp [atP]; try omega)
theorem ltD_int {a b : Int} : ltD (.int a) (.int b) = decide (a < b) := by
  unfold ltD
  simp only [cmpD]
  by_cases h1 : a < b
  · simp [h1]
  · by_cases h2 : a = b
    · simp [h2]
    · simp [h1, h2]
theorem sort_eq {p : List Int} (h : p.length = 2 ∨ p.length = 3) : sortD (dts p) = dts (srtP p) := by
  match p, h with
  | [a, b], _ =>
    simp only [srtP, ordP, ord2, dts, List.map_cons, List.map_nil, sortD, sortD.insF, ltD_int, decide_eq_true_eq]
    split <;> simp [atP]
  | [a, b, c], _ =>
    simp only [srtP, ordP, ord3, dts, List.map_cons, List.map_nil, sortD, sortD.insF, ltD_int, decide_eq_true_eq]
    by_cases h1 : c < b <;> by_cases h2 : c < a <;> by_cases h3 : b < a <;> simp [h1, h2, h3, atP, sortD.insF, ltD_int] <;> omega
theorem srt_len {p : List Int} (h : p.length = 2 ∨ p.length = 3) : (srtP p).length = p.length := by
  have hm := ordP_mem h
  unfold srtP
  rw [List.length_map]
  generalize ordP p = os at hm
  rcases h with h | h <;> rw [h] at hm ⊢
  · simp only [permsN, List.mem_cons, List.not_mem_nil, or_false] at hm
    rcases hm with rfl | rfl <;> rfl
  · simp only [permsN, perms3, List.mem_cons, List.not_mem_nil, or_false] at hm
    rcases hm with rfl | rfl | rfl | rfl | rfl | rfl <;> rfl
theorem wsum_put {p s : List Int} (h : p.length = 2 ∨ p.length = 3) (hs : s.length = p.length) : wsum (putP (ordP p) s) p = wsum s (srtP p) := by
  have hm := ordP_mem h
  unfold srtP
  generalize ordP p = os at hm
  match p, s, h, hs, hm with
  | [a, b], [x, y], _, _, hm =>
    simp only [permsN, List.length_cons, List.length_nil, List.mem_cons, List.not_mem_nil, or_false] at hm
    rcases hm with rfl | rfl <;> simp [putP, wsum, atP] <;> omega
  | [a, b, c], [x, y, z], _, _, hm =>
    simp only [permsN, perms3, List.length_cons, List.length_nil, List.mem_cons, List.not_mem_nil, or_false] at hm
    rcases hm with rfl | rfl | rfl | rfl | rfl | rfl <;> simp [putP, wsum, atP] <;> omega
theorem wsum_unit {p : List Int} {i : Int} (h : p.length = 2 ∨ p.length = 3) (h0 : 0 ≤ i) (h1 : i < p.length) : wsum (unitP p.length i) p = atP p i := by
  have : i = 0 ∨ i = 1 ∨ (i = 2 ∧ p.length = 3) := by omega
  match p, h with
  | [a, b], _ => rcases this with rfl | rfl | ⟨rfl, h⟩ <;> first | (simp at h) | simp [unitP, List.replicate, wsum, atP]
  | [a, b, c], _ => rcases this with rfl | rfl | ⟨rfl, h⟩ <;> simp [unitP, List.replicate, wsum, atP]
/-- place by place not greater -/
def leP : List Int → List Int → Prop
  | [], [] => True
  | a :: p, b :: q => a ≤ b ∧ leP p q
  | _, _ => False
theorem srt_mono {p q : List Int} (h : p.length = 2 ∨ p.length = 3) (hl : leP p q) : leP (srtP p) (srtP q) := by
  match p, q, h, hl with
  | [a, b], [c, d], _, hl =>
    simp only [leP] at hl
    simp only [srtP, ordP, ord2]
    split <;> split <;> simp [atP, leP] <;> omega
  | [a, b, c], [d, e, f], _, hl =>
    simp only [leP] at hl
    simp only [srtP, ordP, ord3]
    repeat' split
    all_goals (simp [atP, leP]; omega)
theorem wsum_mono : ∀ {s p q : List Int}, s.length = p.length → (∀ x ∈ s, 0 ≤ x) → leP p q → wsum s p ≤ wsum s q
  | [], [], [], _, _, _ => by simp [wsum]
  | x :: s, a :: p, b :: q, h, h0, hl => by
    have ih := wsum_mono (s := s) (p := p) (q := q) (by simpa using h) (fun y hy => h0 y (List.mem_cons_of_mem _ hy)) hl.2
    have := Int.mul_le_mul_of_nonneg_left hl.1 (h0 x List.mem_cons_self)
    simp only [wsum]
    omega
  | [], _ :: _, _, h, _, _ => by simp at h
  | _ :: _, [], _, h, _, _ => by simp at h
  | _, [], _ :: _, _, _, hl => by simp [leP] at hl
  | _, _ :: _, [], _, _, hl => by simp [leP] at hl
/-! ### sets -/
def maxL : List Int → Int
  | [] => 0
  | [x] => x
  | x :: xs => if x < maxL xs then maxL xs else x
def minL : List Int → Int
  | [] => 0
  | [x] => x
  | x :: xs => if minL xs < x then minL xs else x
def setVal (X : List (List Int)) (p : List Int) : Int := minL (X.map fun one => maxL (one.map (atP p)))
theorem sets_val {p : List Int} {X : List (List Int)} (h : p.length = 2 ∨ p.length = 3) (hX : X ∈ antiN p.length) : atP p (setsAt (ordP p) X) = setVal X p := by
  match p, h, hX with
  | [a, b], _, hX =>
    simp only [antiN, anti2, List.length_cons, List.length_nil, List.mem_cons, List.not_mem_nil, or_false] at hX
    simp only [ordP, ord2]
    split <;> rcases hX with rfl | rfl | rfl | rfl <;> simp [setsAt, setsIx, rankOf, setVal, minL, maxL, atP, List.findIdx, List.findIdx.go] <;> omega
  | [a, b, c], _, hX =>
    simp only [antiN, anti3, List.length_cons, List.length_nil, List.mem_cons, List.not_mem_nil, or_false] at hX
    simp only [ordP, ord3]
    by_cases h1 : c < b <;> by_cases h2 : c < a <;> by_cases h3 : b < a <;> simp only [h1, h2, h3, if_true, if_false] <;>
    rcases hX with rfl | rfl | rfl | rfl | rfl | rfl | rfl | rfl | rfl | rfl | rfl | rfl | rfl | rfl | rfl | rfl | rfl | rfl <;> simp [setsAt, setsIx, rankOf, setVal, minL, maxL, atP, List.findIdx, List.findIdx.go] <;> (try omega) <;> (repeat' split) <;> omega
end U

namespace U
open PySem Rf
/-! ### what a rule tells, before lowest terms -/
def Ru.val (r : Ru) (p : List Int) : Int := wsum (r.sh p) p
def Ru.bot : Ru → Int
  | .ranks s => s.sum
  | .people s => s.sum
  | .near => 1
  | .sets _ => 1
theorem sh_sum {r : Ru} {p : List Int} (hp : p.length = 2 ∨ p.length = 3) (h : r.Ok p.length) : (r.sh p).sum = r.bot := by
  cases r with
  | ranks s => exact (putP_ok hp (ordP_mem hp) h.1).2.2
  | people s => rfl
  | near =>
    obtain ⟨a, b⟩ := endI_mem hp
    exact (unitP_ok hp a b).2.2
  | sets X =>
    obtain ⟨a, b⟩ := setsAt_mem hp (ordP_mem hp) h
    exact (unitP_ok hp a b).2.2
theorem bot_pos {r : Ru} {m : Nat} (h : r.Ok m) : 0 < r.bot := by
  cases r with
  | ranks s => exact h.2.2
  | people s => exact h.2.2
  | near => decide
  | sets X => exact (by decide : (0 : Int) < 1)
theorem bot_le {r : Ru} {m : Nat} (hm : m = 2 ∨ m = 3) (h : r.Ok m) : r.bot ≤ 27 := by
  cases r with
  | ranks s => exact sum_small (by rw [h.1]; exact hm) h.2.1
  | people s => exact sum_small (by rw [h.1]; exact hm) h.2.1
  | near => decide
  | sets X => exact (by decide : (1 : Int) ≤ 27)
theorem sh_len {r : Ru} {p : List Int} (hp : p.length = 2 ∨ p.length = 3) (h : r.Ok p.length) : (r.sh p).length = p.length := (sh_ok (F := 0) hp h).1
theorem sh_nn {r : Ru} {p : List Int} (hp : p.length = 2 ∨ p.length = 3) (h : r.Ok p.length) : ∀ x ∈ r.sh p, 0 ≤ x := fun x hx => ((sh_ok (F := 0) hp h).2.1 x hx).1
theorem val_shift {r : Ru} {p : List Int} (hp : p.length = 2 ∨ p.length = 3) (h : r.Ok p.length) (f : Int) : r.val (p.map (· + f)) = r.val p + f * r.bot := by
  unfold Ru.val
  rw [sh_shift hp, wsum_shift _ _ _ (sh_len hp h), sh_sum hp h]
theorem val_scale {r : Ru} {p : List Int} (hp : p.length = 2 ∨ p.length = 3) {k : Int} (hk : 0 < k) : r.val (p.map (k * ·)) = k * r.val p := by
  unfold Ru.val
  rw [sh_scale hp r hk, wsum_scale]
theorem val_ge {r : Ru} {p : List Int} (hp : p.length = 2 ∨ p.length = 3) (h : r.Ok p.length) {m : Int} (hm : ∀ a ∈ p, m ≤ a) : m * r.bot ≤ r.val p := by
  rw [← sh_sum hp h]
  exact wsum_ge _ _ _ (sh_len hp h) (sh_nn hp h) hm
theorem val_le {r : Ru} {p : List Int} (hp : p.length = 2 ∨ p.length = 3) (h : r.Ok p.length) {m : Int} (hm : ∀ a ∈ p, a ≤ m) : r.val p ≤ m * r.bot := by
  rw [← sh_sum hp h]
  exact wsum_le _ _ _ (sh_len hp h) (sh_nn hp h) hm
def nearV : List Int → Int
  | [x, _] => x
  | [x, y, z] => if y - x ≤ z - y then x else z
  | _ => 0
theorem near_val {p : List Int} (h : p.length = 2 ∨ p.length = 3) : atP p (endI p (ordP p)) = nearV (srtP p) := by
  have hm := ordP_mem h
  unfold srtP
  generalize ordP p = os at hm
  match p, h, hm with
  | [a, b], _, hm =>
    simp only [permsN, List.length_cons, List.length_nil, List.mem_cons, List.not_mem_nil, or_false] at hm
    rcases hm with rfl | rfl <;> rfl
  | [a, b, c], _, hm =>
    simp only [permsN, perms3, List.length_cons, List.length_nil, List.mem_cons, List.not_mem_nil, or_false] at hm
    rcases hm with rfl | rfl | rfl | rfl | rfl | rfl <;> simp [endI, atP, nearV] <;> split <;> simp
theorem val_near {p : List Int} (h : p.length = 2 ∨ p.length = 3) : Ru.near.val p = nearV (srtP p) := by
  obtain ⟨a, b⟩ := endI_mem h
  exact (wsum_unit h a b).trans (near_val h)
theorem val_ranks {p s : List Int} (h : p.length = 2 ∨ p.length = 3) (hs : s.length = p.length) : (Ru.ranks s).val p = wsum s (srtP p) := wsum_put h hs
theorem val_sets {p : List Int} {X : List (List Int)} (h : p.length = 2 ∨ p.length = 3) (hX : X ∈ antiN p.length) : (Ru.sets X).val p = setVal X p := by
  obtain ⟨a, b⟩ := setsAt_mem h (ordP_mem h) hX
  exact (wsum_unit h a b).trans (sets_val h hX)
def Ru.calm : Ru → Bool
  | .ranks _ => true
  | .near => true
  | _ => false
theorem val_rev {r : Ru} {p : List Int} (hp : p.length = 2 ∨ p.length = 3) (h : r.Ok p.length) (hc : r.calm = true) : r.val p.reverse = r.val p := by
  have hp' : p.reverse.length = 2 ∨ p.reverse.length = 3 := by rw [List.length_reverse]; exact hp
  cases r with
  | ranks s => rw [val_ranks hp h.1, val_ranks hp' (by rw [List.length_reverse]; exact h.1), srt_rev hp]
  | near => rw [val_near hp, val_near hp', srt_rev hp]
  | people s => cases hc
  | sets X => cases hc
theorem leP_refl : ∀ p : List Int, leP p p
  | [] => trivial
  | a :: p => ⟨Int.le_refl a, leP_refl p⟩
theorem leP_len : ∀ {p q : List Int}, leP p q → p.length = q.length
  | [], [], _ => rfl
  | _ :: _, _ :: _, h => by simp [leP_len h.2]
  | [], _ :: _, h => h.elim
  | _ :: _, [], h => h.elim
theorem leP_set : ∀ (p : List Int) (j : Nat) (f : Int), 0 ≤ f → leP p (p.set j (p.getD j 0 + f))
  | [], j, f, _ => by simp [leP]
  | a :: p, 0, f, h => by
    simp only [List.set_cons_zero, List.getD_cons_zero, leP]
    exact ⟨by omega, leP_refl p⟩
  | a :: p, j + 1, f, h => by
    simp only [List.set_cons_succ, List.getD_cons_succ, leP]
    exact ⟨Int.le_refl a, leP_set p j f h⟩
theorem leP_at : ∀ {p q : List Int} (j : Nat), leP p q → p.getD j 0 ≤ q.getD j 0
  | [], [], j, _ => by simp
  | a :: p, b :: q, 0, h => h.1
  | a :: p, b :: q, j + 1, h => leP_at j h.2
  | [], _ :: _, _, h => h.elim
  | _ :: _, [], _, h => h.elim
theorem maxL_mono : ∀ {p q : List Int}, leP p q → maxL p ≤ maxL q
  | [], [], _ => by simp
  | [a], [b], h => h.1
  | a :: a' :: p, b :: b' :: q, h => by
    have ih := maxL_mono (p := a' :: p) (q := b' :: q) h.2
    have h1 := h.1
    simp only [maxL]
    split <;> split <;> omega
  | [], _ :: _, h => h.elim
  | _ :: _, [], h => h.elim
  | [_], _ :: _ :: _, h => h.2.elim
  | _ :: _ :: _, [_], h => h.2.elim
theorem minL_mono : ∀ {p q : List Int}, leP p q → minL p ≤ minL q
  | [], [], _ => by simp
  | [a], [b], h => h.1
  | a :: a' :: p, b :: b' :: q, h => by
    have ih := minL_mono (p := a' :: p) (q := b' :: q) h.2
    have h1 := h.1
    simp only [minL]
    split <;> split <;> omega
  | [], _ :: _, h => h.elim
  | _ :: _, [], h => h.elim
  | [_], _ :: _ :: _, h => h.2.elim
  | _ :: _ :: _, [_], h => h.2.elim
theorem leP_map {α : Type} {f g : α → Int} (h : ∀ x, f x ≤ g x) : ∀ xs : List α, leP (xs.map f) (xs.map g)
  | [] => trivial
  | x :: xs => ⟨h x, leP_map h xs⟩
theorem setVal_mono {p q : List Int} (X : List (List Int)) (h : leP p q) : setVal X p ≤ setVal X q :=
  minL_mono (leP_map (f := fun one => maxL (one.map (atP p))) (g := fun one => maxL (one.map (atP q))) (fun one => maxL_mono (leP_map (f := atP p) (g := atP q) (fun i => leP_at i.toNat h) one)) X)
def Ru.isNear : Ru → Bool
  | .near => true
  | _ => false
theorem val_mono {r : Ru} {p q : List Int} (hp : p.length = 2 ∨ p.length = 3) (h : r.Ok p.length) (hn : r.isNear = false) (hl : leP p q) : r.val p ≤ r.val q := by
  have e := leP_len hl
  have hq : q.length = 2 ∨ q.length = 3 := by rw [← e]; exact hp
  cases r with
  | ranks s =>
    rw [val_ranks hp h.1, val_ranks hq (by rw [← e]; exact h.1)]
    exact wsum_mono (by rw [srt_len hp]; exact h.1) (fun x hx => (h.2.1 x hx).1) (srt_mono hp hl)
  | people s => exact wsum_mono h.1 (fun x hx => (h.2.1 x hx).1) hl
  | near => cases hn
  | sets X =>
    rw [val_sets hp h, val_sets hq (by rw [← e]; exact h)]
    exact setVal_mono X hl
theorem val_same {r : Ru} {m : Nat} (hm : m = 2 ∨ m = 3) (h : r.Ok m) (n : Int) : r.val (List.replicate m n) = n * r.bot := by
  have hl : (List.replicate m n).length = m := List.length_replicate
  have h1 := val_ge (r := r) (p := List.replicate m n) (by rw [hl]; exact hm) (by rw [hl]; exact h) (m := n) (fun a ha => by rw [(List.mem_replicate.mp ha).2]; exact Int.le_refl n)
  have h2 := val_le (r := r) (p := List.replicate m n) (by rw [hl]; exact hm) (by rw [hl]; exact h) (m := n) (fun a ha => by rw [(List.mem_replicate.mp ha).2]; exact Int.le_refl n)
  omega
/-! ### lowest terms -/
def lt (t b : Int) : Int := t / Int.gcd t b
def lb (t b : Int) : Int := b / Int.gcd t b
theorem low_def (t b : Int) : low t b = .tup [.int (lt t b), .int (lb t b)] := rfl
theorem lt_mul (t b : Int) : lt t b * Int.gcd t b = t := low_t t b
theorem lb_mul (t b : Int) : lb t b * Int.gcd t b = b := low_b t b
theorem low_mul {n b : Int} (hb : 0 < b) : low (n * b) b = .tup [.int n, .int 1] := by
  have : (Int.gcd (n * b) b : Int) = b := by
    rw [Int.gcd_comm, Int.gcd_mul_left_right]
    omega
  unfold low
  rw [this, Int.mul_ediv_cancel _ (by omega), Int.ediv_self (by omega)]
theorem low_one (n : Int) : low n 1 = .tup [.int n, .int 1] := by
  have := low_mul (n := n) (b := 1) (by decide)
  rwa [Int.mul_one] at this
theorem low_zero {b : Int} (hb : 0 < b) : low 0 b = .tup [.int 0, .int 1] := by
  have := low_mul (n := 0) hb
  rwa [Int.zero_mul] at this
theorem lb_pos {t b : Int} (hb : 0 < b) : 0 < lb t b := by
  have h1 := lb_mul t b
  have h2 := gcd_pos (t := t) hb
  refine Int.pos_of_mul_pos_left (b := (Int.gcd t b : Int)) ?_ h2 <;> omega
theorem lb_le {t b : Int} (hb : 0 < b) : lb t b ≤ b := by
  unfold lb
  exact Int.ediv_le_self _ (by omega)
theorem lt_le {t b : Int} (hb : 0 < b) : (lt t b).natAbs ≤ t.natAbs := by
  unfold lt
  rw [Int.natAbs_ediv_of_dvd (Int.gcd_dvd_left ..)]
  exact Nat.div_le_self _ _
end U

namespace U
open PySem Rf
/-! ### the cells -/
theorem cell_eq {F n : Nat} {ns : List Int} {k : Int} (hn : ns.length ≤ 63) (hk : 0 ≤ k) : ∃ v, ∀ st, CC F (n + 1) 19 [.kl (dts ns), .int k] st = .ok (.int v) st := by
  have hsh : shD 60 (.kl (dts ns)) = true := by
    show shDs 59 (dts ns) = true
    exact sh_dts 59 ns
  have hc : cmpV .eq (.kl (dts ns)) (.lst []) = some (eqD (.kl (dts ns)) (.lst [])) := by
    show (if (shD 60 (.kl (dts ns)) && shD 60 (.lst [])) = true then some (eqD (.kl (dts ns)) (.lst [])) else none) = _
    rw [hsh]
    rfl
  by_cases h : ns = []
  · subst h
    have m1 : binV .mul (.int k) (.int 7919) = some (.int (k * 7919)) := mul_r (by decide)
    refine ⟨k * 7919, fun st => ?_⟩
    rw [call_eq (f := f__law_cell) rfl]
    refine run_of rfl ?_
    have hc' : cmpV .eq (.kl []) (.lst []) = some true := by kernel_rfl
    (simp [startR, evSs, evS, evE, evEs, evB, evO, evL, evIt, evTg, evTgs, evC, compS, forS, Res.bind, Res.sr, ok1, ixV, ixK, items, seqOf, dr, lenOk, ixNat, bltV, allInt, allBl, isiV, setI, wipeR, itemAt, Kst.d, bigN, Tgs.len, rngL, cmp_eq_int, cmp_ne_int, cmp_lt_int, cmp_le_int, cmp_gt_int, cmp_ge_int, add_int, sub_int, f__law_cell, dts, hc', m1])
  · have hlen : 0 < ns.length := List.length_pos_iff.mpr h
    have he : eqD (.kl (dts ns)) (.lst []) = false := by
      cases ns with
      | nil => exact absurd rfl h
      | cons a ns => simp [dts, eqD, eqDs]
    rw [he] at hc
    have m1 : binV .mul (.int (k / (ns.length : Int))) (.int 104729) = some (.int (k / (ns.length : Int) * 104729)) := mul_r (by decide)
    have m2 : binV .mod (.int k) (.int (ns.length : Int)) = some (.int (k % (ns.length : Int))) := mod_int (by omega)
    have m3 : binV .fdiv (.int k) (.int (ns.length : Int)) = some (.int (k / (ns.length : Int))) := fdiv_int (divOk_of (by omega) (by omega))
    have hl : ∀ st, bltV .len [.kl (dts ns)] st = some (.int (ns.length : Int)) := by
      intro st
      show some (D.int ((dts ns).length : Int)) = _
      rw [dts, List.length_map]
    have h1 : 0 ≤ k % (ns.length : Int) := Int.emod_nonneg _ (by omega)
    have h2 : k % (ns.length : Int) < ns.length := Int.emod_lt_of_pos _ (by omega)
    have hx : ixK (.kl (dts ns)) (.int (k % (ns.length : Int))) = some (.int (ns.getD (k % (ns.length : Int)).toNat 0)) := by
      show (match ixNat (dts ns).length (k % (ns.length : Int)) with | some j => (dts ns)[j]? | none => none) = _
      have : ixNat (dts ns).length (k % (ns.length : Int)) = some (k % (ns.length : Int)).toNat := by
        unfold ixNat
        rw [if_pos h1, if_pos (by rw [dts, List.length_map]; exact h2)]
      rw [this]
      show (dts ns)[_]? = _
      have hj : (k % (ns.length : Int)).toNat < ns.length := by omega
      rw [dts, List.getElem?_map, List.getElem?_eq_getElem hj, List.getD_eq_getElem?_getD, List.getElem?_eq_getElem hj]
      rfl
    refine ⟨ns.getD (k % (ns.length : Int)).toNat 0 + k / (ns.length : Int) * 104729, fun st => ?_⟩
    rw [call_eq (f := f__law_cell) rfl]
    refine run_of rfl ?_
    generalize dts ns = zs at *
    simp [startR, evSs, evS, evE, evEs, evL, Res.bind, Res.sr, ok1, dr, lenOk, Kst.d, bigN, add_int, f__law_cell, hc, hl, m1, m2, m3, hx]
theorem rounds_eq {F n : Nat} {ns : List Int} (hn : ns.length ≤ 63) : ∃ cs : List (Int × Int), 1 ≤ cs.length ∧ cs.length ≤ 5 ∧ CC F (n + 2) 22 [.kl (dts ns), .int 5] [] = .ok (.lst ((List.range cs.length).map .ref)) (dst cs) := by
  obtain ⟨v0, h0⟩ := cell_eq (F := F) (n := n) (k := 0) hn (by decide)
  obtain ⟨v1, h1⟩ := cell_eq (F := F) (n := n) (k := 1) hn (by decide)
  obtain ⟨v2, h2⟩ := cell_eq (F := F) (n := n) (k := 2) hn (by decide)
  obtain ⟨v3, h3⟩ := cell_eq (F := F) (n := n) (k := 3) hn (by decide)
  obtain ⟨v4, h4⟩ := cell_eq (F := F) (n := n) (k := 4) hn (by decide)
  have hl : ∀ st, bltV .len [.kl (dts ns)] st = some (.int (ns.length : Int)) := by
    intro st
    show some (D.int ((dts ns).length : Int)) = _
    rw [dts, List.length_map]
  have hb : ∀ st, bltV .min2 [.int 5, .int (ns.length : Int)] st = some (.int (if (ns.length : Int) < 5 then (ns.length : Int) else 5)) := fun st => rfl
  have hm : ∀ st x, bltV .max2 [.int 1, .int x] st = some (.int (if x > 1 then x else 1)) := fun st x => rfl
  obtain ⟨c, hc, e⟩ : ∃ c : Nat, (c = 1 ∨ c = 2 ∨ c = 3 ∨ c = 4 ∨ c = 5) ∧ (if (if (ns.length : Int) < 5 then (ns.length : Int) else 5) > 1 then (if (ns.length : Int) < 5 then (ns.length : Int) else 5) else 1) = (c : Int) := by
    by_cases a : (ns.length : Int) < 5
    · by_cases b : (ns.length : Int) > 1
      · refine ⟨ns.length, by omega, ?_⟩
        rw [if_pos a, if_pos b]
      · refine ⟨1, .inl rfl, ?_⟩
        rw [if_pos a, if_neg b]
        rfl
    · refine ⟨5, by omega, ?_⟩
      rw [if_neg a]
      rfl
  have hm' : ∀ st, bltV .max2 [.int 1, .int (if (ns.length : Int) < 5 then (ns.length : Int) else 5)] st = some (.int (c : Int)) := fun st => by rw [hm, e]
  generalize (if (ns.length : Int) < 5 then (ns.length : Int) else 5) = q at *
  generalize dts ns = zs at *
  rcases hc with rfl | rfl | rfl | rfl | rfl
  · refine ⟨[(v0, 0)], by simp, by simp, ?_⟩
    rw [call_eq (f := f__law_rounds) rfl]
    refine run_fin (f := f__law_rounds) (st' := dst [(v0, 0)]) (d := .lst ((List.range 1).map .ref)) rfl ?_ rfl
    simp [startR, evSs, evS, evE, evEs, evL, evIt, evTg, evC, compS, Res.bind, Res.sr, ok1, lenOk, setI, wipeR, itemAt, Kst.d, bigN, rngL, f__law_rounds, hl, hb, hm', h0, dst, List.range, List.range.loop]
  · refine ⟨[(v0, 0), (v1, 0)], by simp, by simp, ?_⟩
    rw [call_eq (f := f__law_rounds) rfl]
    refine run_fin (f := f__law_rounds) (st' := dst [(v0, 0), (v1, 0)]) (d := .lst ((List.range 2).map .ref)) rfl ?_ rfl
    simp [startR, evSs, evS, evE, evEs, evL, evIt, evTg, evC, compS, Res.bind, Res.sr, ok1, lenOk, setI, wipeR, itemAt, Kst.d, bigN, rngL, f__law_rounds, hl, hb, hm', h0, h1, dst, List.range, List.range.loop]
  · refine ⟨[(v0, 0), (v1, 0), (v2, 0)], by simp, by simp, ?_⟩
    rw [call_eq (f := f__law_rounds) rfl]
    refine run_fin (f := f__law_rounds) (st' := dst [(v0, 0), (v1, 0), (v2, 0)]) (d := .lst ((List.range 3).map .ref)) rfl ?_ rfl
    simp [startR, evSs, evS, evE, evEs, evL, evIt, evTg, evC, compS, Res.bind, Res.sr, ok1, lenOk, setI, wipeR, itemAt, Kst.d, bigN, rngL, f__law_rounds, hl, hb, hm', h0, h1, h2, dst, List.range, List.range.loop]
  · refine ⟨[(v0, 0), (v1, 0), (v2, 0), (v3, 0)], by simp, by simp, ?_⟩
    rw [call_eq (f := f__law_rounds) rfl]
    refine run_fin (f := f__law_rounds) (st' := dst [(v0, 0), (v1, 0), (v2, 0), (v3, 0)]) (d := .lst ((List.range 4).map .ref)) rfl ?_ rfl
    simp [startR, evSs, evS, evE, evEs, evL, evIt, evTg, evC, compS, Res.bind, Res.sr, ok1, lenOk, setI, wipeR, itemAt, Kst.d, bigN, rngL, f__law_rounds, hl, hb, hm', h0, h1, h2, h3, dst, List.range, List.range.loop]
  · refine ⟨[(v0, 0), (v1, 0), (v2, 0), (v3, 0), (v4, 0)], by simp, by simp, ?_⟩
    rw [call_eq (f := f__law_rounds) rfl]
    refine run_fin (f := f__law_rounds) (st' := dst [(v0, 0), (v1, 0), (v2, 0), (v3, 0), (v4, 0)]) (d := .lst ((List.range 5).map .ref)) rfl ?_ rfl
    simp [startR, evSs, evS, evE, evEs, evL, evIt, evTg, evC, compS, Res.bind, Res.sr, ok1, lenOk, setI, wipeR, itemAt, Kst.d, bigN, rngL, f__law_rounds, hl, hb, hm', h0, h1, h2, h3, h4, dst, List.range, List.range.loop]
end U

namespace U
open PySem Rf
/-! ### expressions of the law -/
abbrev CL : Calls := CC 1000 11
theorem compS_ints {b : D → Hs → Res (Option D)} {g : Int → Int} {st : Hs} : ∀ (p : List Int) (i : Nat) (acc : List D), (∀ a ∈ p, b (.int a) st = .ok (some (.int (g a))) st) → compS false b (dts p) i acc st = .ok (acc.reverse ++ dts (p.map g)) st
  | [], i, acc, _ => by simp [dts, compS]
  | a :: p, i, acc, h => by
    show (match b (.int a) st with
      | .ok (some x) st' => compS false b (dts p) (i + 1) (x :: acc) st'
      | .ok none st' => compS false b (dts p) (i + 1) acc st'
      | _ => .stuck) = _
    rw [h a List.mem_cons_self]
    show compS false b (dts p) (i + 1) (.int (g a) :: acc) st = _
    rw [compS_ints p _ _ fun c hc => h c (List.mem_cons_of_mem _ hc)]
    simp [dts]
theorem lenOk_le {α : Type} {xs : List α} (h : xs.length ≤ 100000) : lenOk xs = true := Nat.ble_eq_true_of_le h
theorem dts_len (p : List Int) : (dts p).length = p.length := List.length_map ..
theorem comp_ints {C : Calls} {F : Nat} {ρ : Rho} {st : Hs} {own : List Nat} {t : Tg} {e src : E} {p : List Int} {g : Int → Int} (h1 : evE C F src ρ st = .ok (.tup (dts p)) st) (hl : p.length = 2 ∨ p.length = 3) (h2 : ∀ a ∈ p, bodyC C F ρ own t .none e (.int a) st = .ok (some (.int (g a))) st) :
    evL C F (.comp own t (.seq src) .none e) ρ st = .ok (dts (p.map g)) st := by
  have e1 : evIt C F (.seq src) ρ st = .ok (.st false (dts p)) st := by
    show (evE C F src ρ st).bind _ = _
    rw [h1]
    rfl
  rw [comp_at e1 (lenOk_le (by rw [dts_len]; omega)), compS_ints p 0 [] h2]
  rfl
theorem ev_v {C : Calls} {F i : Nat} {ρ : Rho} {st : Hs} {d : D} (h : ρ[i]? = some (some d)) : evE C F (.v i) ρ st = .ok d st := by
  show (match ρ[i]? with | some (some d) => Res.ok d st | _ => .stuck) = _
  rw [h]
theorem rho19 {ρ : Rho} (h : ρ.length = 19) : ∃ x0 x1 x2 x3 x4 x5 x6 x7 x8 x9 x10 x11 x12 x13 x14 x15 x16 x17 x18, ρ = [x0, x1, x2, x3, x4, x5, x6, x7, x8, x9, x10, x11, x12, x13, x14, x15, x16, x17, x18] := by
  match ρ, h with
  | [x0, x1, x2, x3, x4, x5, x6, x7, x8, x9, x10, x11, x12, x13, x14, x15, x16, x17, x18], _ => exact ⟨_, _, _, _, _, _, _, _, _, _, _, _, _, _, _, _, _, _, _, rfl⟩
theorem c_shift {C : Calls} {F : Nat} {ρ : Rho} {st : Hs} {p : List Int} {f : Int} (hl : p.length = 2 ∨ p.length = 3) (h10 : ρ[10]? = some (some (.tup (dts p)))) (h14 : ρ[14]? = some (some (.int f))) (hn : ρ.length = 19) :
    evL C F (.comp [18] (.name 18) (.seq (.v 10)) .none (.bin .add (.v 18) (.v 14))) ρ st = .ok (dts (p.map (· + f))) st := by
  refine comp_ints (ev_v h10) hl fun a _ => ?_
  obtain ⟨x0, x1, x2, x3, x4, x5, x6, x7, x8, x9, x10, x11, x12, x13, x14, x15, x16, x17, x18, rfl⟩ := rho19 hn
  simp only [List.getElem?_cons_succ, List.getElem?_cons_zero, Option.some.injEq] at h14
  subst h14
  simp [bodyC, evTg, evC, evE, Res.bind, wipeR, setI, dr, add_int, ok1]
theorem c_scale {C : Calls} {F : Nat} {ρ : Rho} {st : Hs} {p : List Int} {k : Int} (hl : p.length = 2 ∨ p.length = 3) (hk : k.natAbs < 2 ^ 64) (h10 : ρ[10]? = some (some (.tup (dts p)))) (h13 : ρ[13]? = some (some (.int k))) (hn : ρ.length = 19) :
    evL C F (.comp [18] (.name 18) (.seq (.v 10)) .none (.bin .mul (.v 13) (.v 18))) ρ st = .ok (dts (p.map (k * ·))) st := by
  refine comp_ints (ev_v h10) hl fun a _ => ?_
  obtain ⟨x0, x1, x2, x3, x4, x5, x6, x7, x8, x9, x10, x11, x12, x13, x14, x15, x16, x17, x18, rfl⟩ := rho19 hn
  simp only [List.getElem?_cons_succ, List.getElem?_cons_zero, Option.some.injEq] at h13
  subst h13
  simp [bodyC, evTg, evC, evE, Res.bind, wipeR, setI, dr, mul_eq hk, ok1]
theorem c_lone {C : Calls} {F : Nat} {ρ : Rho} {st : Hs} {m : Nat} {j : Int} (hm : m = 2 ∨ m = 3) (hj : 0 ≤ j ∧ j < m) (h2 : ρ[2]? = some (some (.int m))) (h4 : ρ[4]? = some (some (.int j))) (hn : ρ.length = 19) :
    evL C F (.comp [17] (.name 17) (.rng1 (.v 2)) .none (.blt .int (.cons (.cmp .eq (.v 17) (.v 4)) .nil))) ρ st = .ok (dts (unitP m j)) st := by
  have : j = 0 ∨ j = 1 ∨ (j = 2 ∧ m = 3) := by omega
  obtain ⟨x0, x1, x2, x3, x4, x5, x6, x7, x8, x9, x10, x11, x12, x13, x14, x15, x16, x17, x18, rfl⟩ := rho19 hn
  simp only [List.getElem?_cons_succ, List.getElem?_cons_zero, Option.some.injEq] at h2 h4
  subst h2 h4
  rcases hm with rfl | rfl <;> rcases this with rfl | rfl | ⟨rfl, h⟩ <;> first | omega | simp [evL, evIt, compS, evTg, evC, evE, evEs, Res.bind, wipeR, setI, dr, ok1, rngL, lenOk, bigN, itemAt, cmp_eq_int, bltV, dts, unitP, List.replicate]
theorem c_ahead {C : Calls} {F : Nat} {ρ : Rho} {st : Hs} {p : List Int} {j f : Int} (hl : p.length = 2 ∨ p.length = 3) (hj : 0 ≤ j ∧ j < p.length) (h10 : ρ[10]? = some (some (.tup (dts p)))) (h4 : ρ[4]? = some (some (.int j))) (h14 : ρ[14]? = some (some (.int f))) (hn : ρ.length = 19) :
    evE C F (.bin .add (.bin .add (.sl (.v 10) .none (.some (.v 4))) (.tup (.cons (.bin .add (.ix (.v 10) (.v 4)) (.v 14)) .nil))) (.sl (.v 10) (.some (.bin .add (.v 4) (.k (.int 1)))) .none)) ρ st = .ok (.tup (dts (p.set j.toNat (p.getD j.toNat 0 + f)))) st := by
  have hj' : j = 0 ∨ j = 1 ∨ (j = 2 ∧ p.length = 3) := by omega
  obtain ⟨x0, x1, x2, x3, x4, x5, x6, x7, x8, x9, x10, x11, x12, x13, x14, x15, x16, x17, x18, rfl⟩ := rho19 hn
  simp only [List.getElem?_cons_succ, List.getElem?_cons_zero, Option.some.injEq] at h10 h4 h14
  subst h10 h4 h14
  match p, hl, hj' with
  | [a, b], _, hj' =>
    rcases hj' with rfl | rfl | ⟨rfl, h⟩
    · kernel_rfl
    · kernel_rfl
    · simp at h
  | [a, b, c], _, hj' => rcases hj' with rfl | rfl | ⟨rfl, h⟩ <;> kernel_rfl
theorem mul_rep {d : D} {m : Nat} (hm : m = 2 ∨ m = 3) : binV .mul (.tup [d]) (.int m) = some (.tup (List.replicate m d)) := by
  rcases hm with rfl | rfl <;> rfl
theorem ix_at {st : Hs} {p : List Int} {j : Int} (hl : p.length ≤ 1000) (hj : 0 ≤ j ∧ j < p.length) : ixV st (.tup (dts p)) (.int j) = some (.int (atP p j)) := by
  show (if lenOk (dts p) = true then (match ixNat (dts p).length j with | some k => (dts p)[k]? | none => none) else none) = _
  rw [if_pos (lenOk_le (by rw [dts_len]; omega))]
  have : ixNat (dts p).length j = some j.toNat := by
    unfold ixNat
    rw [if_pos hj.1, if_pos (by rw [dts_len]; exact hj.2)]
  rw [this]
  show (dts p)[j.toNat]? = _
  have h : j.toNat < p.length := by omega
  unfold atP
  rw [dts, List.getElem?_map, List.getElem?_eq_getElem h, List.getD_eq_getElem?_getD, List.getElem?_eq_getElem h]
  rfl
theorem ix_atL {st : Hs} {p : List Int} {j : Int} (hl : p.length ≤ 1000) (hj : 0 ≤ j ∧ j < p.length) : ixV st (.lst (dts p)) (.int j) = some (.int (atP p j)) := ix_at (st := st) hl hj
theorem c_sorted {C : Calls} {F : Nat} {ρ : Rho} {st : Hs} {p : List Int} (hl : p.length = 2 ∨ p.length = 3) (h10 : ρ[10]? = some (some (.tup (dts p)))) : evL C F (.sorted (.v 10)) ρ st = .ok (dts (srtP p)) st := by
  show (evE C F (.v 10) ρ st).bind _ = _
  rw [ev_v h10]
  show ok1 st (sortedV st (.tup (dts p))) = _
  have : sortedV st (.tup (dts p)) = some (dts (srtP p)) := by
    show (if (lenOk (dts p) && sortable (dts p) && sortShape (dts p)) = true then some (sortD (dts p)) else none) = _
    rw [sort_eq hl, if_pos]
    match p, hl with
    | [a, b], _ => rfl
    | [a, b, c], _ => rfl
  rw [this]
  rfl
/-! ### the meeting told -/
def PlOk (p : List Int) : Prop := ∀ x ∈ p, 1 ≤ x ∧ x ≤ 1000000
theorem places_ok {F m : Nat} {p : List Int} (hm : m = 2 ∨ m = 3) (hl : p.length = m) (h : PlOk p) : PlacesOk F (.tup (dts p)) m := by
  intro n st
  rcases hm with rfl | rfl
  · match p, hl with
    | [a, b], _ => exact is_places2 (h a (by simp)) (h b (by simp))
  · match p, hl with
    | [a, b, c], _ => exact is_places3 (h a (by simp)) (h b (by simp)) (h c (by simp))
theorem meet {m : Nat} {r : Ru} {p : List Int} {cs : List (Int × Int)} (hm : m = 2 ∨ m = 3) (hl : p.length = m) (hr : r.Ok m) (hp : PlOk p) (hcs : cs.length ≤ 5) : CL 17 [.int m, r.d, .tup (dts p)] (dst cs) = .ok (.tup [.int (lt (r.val p) r.bot), .int (lb (r.val p) r.bot)]) (dst cs) := by
  subst hl
  have := meeting_eq (F := 1000) (n := 5) (cs := cs) (R := r.d) (p := p) (s := r.sh p) (m := p.length) (by decide) hm rfl hcs (rule_ok hm hr) (places_ok hm rfl hp) (sh_ok hm hr)
  rw [sh_sum hm hr] at this
  exact this
theorem waysT {m : Nat} {r : Ru} {p : List Int} {cs : List (Int × Int)} (hm : m = 2 ∨ m = 3) (hl : p.length = m) (hr : r.Ok m) (hp : PlOk p) (hcs : cs.length ≤ 5) : CL 18 [.int m, r.d, .tup (dts p)] (dst cs) = .ok (.tup (p.map fun a => low (absI (r.bot * a - r.val p)) r.bot)) (dst cs) := by
  subst hl
  have := ways_eq (F := 1000) (n := 5) (cs := cs) (R := r.d) (p := p) (s := r.sh p) (m := p.length) (by decide) hm rfl hcs (rule_ok hm hr) (places_ok hm rfl hp) (sh_ok hm hr)
  unfold waysD at this
  rw [sh_sum hm hr] at this
  exact this
end U

namespace U
open PySem Rf
/-! ### draws, by the cell i of any heap -/
def put (i : Nat) (a : Int × Int) (st : Hs) : Hs := st.set i (O.lst [.int a.1, .int a.2])
theorem put_len {i : Nat} {a : Int × Int} {st : Hs} : (put i a st).length = st.length := List.length_set
theorem put_get {i : Nat} {a : Int × Int} {st : Hs} (h : i < st.length) : (put i a st)[i]? = some (O.lst [.int a.1, .int a.2]) := List.getElem?_set_self h
theorem put_ne {i j : Nat} {a : Int × Int} {st : Hs} (h : i ≠ j) : (put i a st)[j]? = st[j]? := List.getElem?_set_ne h
theorem put_put {i : Nat} {a b : Int × Int} {st : Hs} : put i b (put i a st) = put i b st := List.set_set ..
theorem put_set {i j : Nat} {a : Int × Int} {st : Hs} {o : O} (h : i ≠ j) : (put i a st).set j o = put i a (st.set j o) := List.set_comm _ _ h
theorem put_app {i : Nat} {a : Int × Int} {st : Hs} {X : Hs} (h : i < st.length) : put i a st ++ X = put i a (st ++ X) := by
  unfold put
  rw [List.set_append_left _ _ h]
/-- cells without cells -/
def nfO : O → Bool
  | .lst ds => nfs ds
  | .ins _ fs => fs.all fun p => nf p.2
mutual
theorem below_nf (n : Nat) : ∀ d : D, nf d = true → below n d = true
  | .tup ds, h => by simp only [nf] at h; simp only [below, belows_nf n ds h]
  | .lst ds, h => by simp only [nf] at h; simp only [below, belows_nf n ds h]
  | .kl ds, h => by simp only [nf] at h; simp only [below, belows_nf n ds h]
  | .ref _, h => by simp only [nf] at h; cases h
  | .non, _ => rfl
  | .bl _, _ => rfl
  | .int _, _ => rfl
  | .str _, _ => rfl
  | .exc _, _ => rfl
theorem belows_nf (n : Nat) : ∀ ds : List D, nfs ds = true → belows n ds = true
  | [], _ => rfl
  | d :: ds, h => by
    simp only [nfs, Bool.and_eq_true] at h
    simp only [belows, below_nf n d h.1, belows_nf n ds h.2, Bool.and_self]
end
theorem belowO_nf {n : Nat} {o : O} (h : nfO o = true) : belowO n o = true := by
  cases o with
  | lst ds => exact belows_nf _ ds h
  | ins c fs =>
    simp only [nfO, List.all_eq_true] at h
    simp only [belowO, List.all_eq_true]
    exact fun p hp => below_nf _ p.2 (h p hp)
/-- a heap of such cells -/
def nfH (st : Hs) : Bool := st.all nfO
theorem nfH_shut {st : Hs} (h : nfH st = true) : shut st = true := by
  unfold nfH at h
  unfold shut
  rw [List.all_eq_true] at h ⊢
  exact fun o ho => belowO_nf (h o ho)
theorem nfH_set {st : Hs} {i : Nat} {o : O} (h : nfH st = true) (ho : nfO o = true) : nfH (st.set i o) = true := by
  unfold nfH at h ⊢
  rw [List.all_eq_true] at h ⊢
  intro x hx
  rcases List.mem_or_eq_of_mem_set hx with hx | rfl
  · exact h x hx
  · exact ho
theorem nfH_put {st : Hs} {i : Nat} {a : Int × Int} (h : nfH st = true) : nfH (put i a st) = true := nfH_set h rfl
theorem nfH_app {st st' : Hs} (h : nfH st = true) (h' : nfH st' = true) : nfH (st ++ st') = true := by
  unfold nfH at h h' ⊢
  rw [List.all_append, h, h']
  rfl
theorem nfH_dst {cs : List (Int × Int)} : nfH (dst cs) = true := by
  unfold nfH dst
  rw [List.all_map, List.all_eq_true]
  intro c _
  rfl
theorem roll_eqP {F n i : Nat} {st : Hs} {a : Int × Int} {m : Int} (hi : i < st.length) (h1 : 0 < m) (h2 : m ≤ 10000000) : ∃ t b, 0 ≤ t ∧ t < m ∧ CC F (n + 2) i__law_roll [.ref i, .int m] (put i a st) = .ok (.int t) (put i b st) := by
  rw [call_eq (f := f__law_roll) rfl]
  obtain ⟨x, y⟩ := a
  have g := put_get (a := (x, y)) hi
  have hp : binV .pow (.int 10) (.int 18) = some (.int 1000000000000000000) := by kernel_rfl
  have hd : divOk m = true := divOk_of h1 (by omega)
  have hmod : ∀ x : Int, binV .mod (.int x) (.int m) = some (.int (x % m)) := fun x => mod_int h1
  have hdiv : ∀ x : Int, binV .fdiv (.int x) (.int m) = some (.int (x / m)) := fun x => fdiv_int hd
  have hd8 : ∀ x : Int, binV .fdiv (.int x) (.int 8) = some (.int (x / 8)) := fun x => fdiv_int (by kernel_rfl)
  have ss : ∀ b : Int × Int, (put i (x, y) st).set i (O.lst [.int b.1, .int b.2]) = put i b st := fun b => put_put
  by_cases hx : (1000000000000000000 : Int) ≤ x
  · refine ⟨x % m, (x / m, y), Int.emod_nonneg _ (by omega), Int.emod_lt_of_pos _ h1, ?_⟩
    refine run_fin (st' := put i (x / m, y) st) (d := .int (x % m)) rfl ?_ (fin_len (by rw [put_len, put_len]))
    rw [← ss (x / m, y)]
    (simp [startR, evSs, evS, evE, evEs, evB, evO, evL, evIt, evTg, evTgs, evC, compS, forS, Res.bind, Res.sr, ok1, ixV, ixK, items, seqOf, dr, lenOk, ixNat, bltV, allInt, allBl, isiV, setI, wipeR, itemAt, Kst.d, bigN, Tgs.len, rngL, cmp_eq_int, cmp_ne_int, cmp_lt_int, cmp_le_int, cmp_gt_int, cmp_ge_int, add_int, sub_int, f__law_roll, g, hp, hx, hmod, hdiv])
  · obtain ⟨v, hv⟩ := drawn_eq (F := F) (n := n) (c := x) (k := y + 1) (st := put i (x, y + 1) st)
    refine ⟨v / 8 % m, (x, y + 1), Int.emod_nonneg _ (by omega), Int.emod_lt_of_pos _ h1, ?_⟩
    refine run_fin (st' := put i (x, y + 1) st) (d := .int (v / 8 % m)) rfl ?_ (fin_len (by rw [put_len, put_len]))
    rw [← ss (x, y + 1)] at hv ⊢
    have hlt : i < (put i (x, y) st).length := by rw [put_len]; exact hi
    (simp [startR, evSs, evS, evE, evEs, evB, evO, evL, evIt, evTg, evTgs, evC, compS, forS, Res.bind, Res.sr, ok1, ixV, ixK, items, seqOf, dr, lenOk, ixNat, bltV, allInt, allBl, isiV, setI, wipeR, itemAt, Kst.d, bigN, Tgs.len, rngL, cmp_eq_int, cmp_ne_int, cmp_lt_int, cmp_le_int, cmp_gt_int, cmp_ge_int, add_int, sub_int, f__law_roll, g, hp, hx, hmod, hd8, hv, List.getElem?_set_self hlt])
theorem rollP {F n i : Nat} {st : Hs} (a : Int × Int) (m : Int) (hi : i < st.length) (h1 : 0 < m) (h2 : m ≤ 10000000) : ∃ t b, 0 ≤ t ∧ t < m ∧ CC F (n + 2) 21 [.ref i, .int m] (put i a st) = .ok (.int t) (put i b st) := roll_eqP hi h1 h2
theorem anti_eq2P {F n : Nat} {st : Hs} (h : nfH st = true) : CC F (n + 2) i__law_antichains [.int 2] st = .ok (.lst (anti2.map setsD)) st := frame (anti_eq2 (cs := []) (by decide)) rfl (by decide +kernel) _ (nfH_shut h)
theorem anti_eq3P {F n : Nat} {st : Hs} (h : nfH st = true) : CC F (n + 2) i__law_antichains [.int 3] st = .ok (.lst (anti3.map setsD)) st := frame (anti_eq3 (cs := []) (by decide)) rfl (by decide +kernel) _ (nfH_shut h)
theorem fin_put {b : Bool} {d : D} {i : Nat} {a c : Int × Int} {st : Hs} : fin b (put i a st).length d (put i c st) = .ok d (put i c st) := fin_len (by rw [put_len, put_len])
theorem shares_drawnP {F n i : Nat} {st : Hs} {m : Nat} {far : Int} (hm : m = 2 ∨ m = 3) (a : Int × Int) (hi : i < st.length) (h1 : 1 ≤ far) (h2 : far ≤ 9) : ∃ s b, s.length = m ∧ (∀ x ∈ s, 0 ≤ x ∧ x ≤ far) ∧ 0 < s.sum ∧
    CC F (n + 3) i__law_shares [.ref i, .int m, .int far] (put i a st) = .ok (.tup (dts s)) (put i b st) := by
  rw [call_eq (f := f__law_shares) rfl]
  rcases hm with rfl | rfl
  · obtain ⟨t1, c1, a1, b1, r1⟩ := rollP (F := F) (n := n) a (far + 1) hi (by omega) (by omega)
    obtain ⟨t2, c2, a2, b2, r2⟩ := rollP (F := F) (n := n) c1 (far + 1) hi (by omega) (by omega)
    by_cases hs : 0 < t1 + t2
    · refine ⟨[t1, t2], c2, rfl, fun x hx => ?_, by simpa using hs, ?_⟩
      · simp only [List.mem_cons, List.not_mem_nil, or_false] at hx
        rcases hx with rfl | rfl <;> omega
      · refine run_fin (st' := put i c2 st) (d := .tup (dts [t1, t2])) rfl ?_ fin_put
        (simp [startR, evSs, evS, evE, evEs, evB, evO, evL, evIt, evTg, evTgs, evC, compS, forS, Res.bind, Res.sr, ok1, ixV, ixK, items, seqOf, dr, lenOk, ixNat, bltV, allInt, allBl, isiV, setI, wipeR, itemAt, Kst.d, bigN, Tgs.len, rngL, cmp_eq_int, cmp_ne_int, cmp_lt_int, cmp_le_int, cmp_gt_int, cmp_ge_int, add_int, sub_int, f__law_shares, r1, r2, hs, dts])
    · refine ⟨[1, 1], c2, rfl, fun x hx => ?_, by decide, ?_⟩
      · simp only [List.mem_cons, List.not_mem_nil, or_false] at hx
        rcases hx with rfl | rfl <;> omega
      · have hb : binV .mul (.tup [.int 1]) (.int 2) = some (.tup [.int 1, .int 1]) := by kernel_rfl
        refine run_fin (st' := put i c2 st) (d := .tup (dts [1, 1])) rfl ?_ fin_put
        (simp [startR, evSs, evS, evE, evEs, evB, evO, evL, evIt, evTg, evTgs, evC, compS, forS, Res.bind, Res.sr, ok1, ixV, ixK, items, seqOf, dr, lenOk, ixNat, bltV, allInt, allBl, isiV, setI, wipeR, itemAt, Kst.d, bigN, Tgs.len, rngL, cmp_eq_int, cmp_ne_int, cmp_lt_int, cmp_le_int, cmp_gt_int, cmp_ge_int, add_int, sub_int, f__law_shares, r1, r2, hs, dts, hb])
  · obtain ⟨t1, c1, a1, b1, r1⟩ := rollP (F := F) (n := n) a (far + 1) hi (by omega) (by omega)
    obtain ⟨t2, c2, a2, b2, r2⟩ := rollP (F := F) (n := n) c1 (far + 1) hi (by omega) (by omega)
    obtain ⟨t3, c3, a3, b3, r3⟩ := rollP (F := F) (n := n) c2 (far + 1) hi (by omega) (by omega)
    by_cases hs : 0 < t1 + (t2 + t3)
    · refine ⟨[t1, t2, t3], c3, rfl, fun x hx => ?_, by simpa using hs, ?_⟩
      · simp only [List.mem_cons, List.not_mem_nil, or_false] at hx
        rcases hx with rfl | rfl | rfl <;> omega
      · refine run_fin (st' := put i c3 st) (d := .tup (dts [t1, t2, t3])) rfl ?_ fin_put
        (simp [startR, evSs, evS, evE, evEs, evB, evO, evL, evIt, evTg, evTgs, evC, compS, forS, Res.bind, Res.sr, ok1, ixV, ixK, items, seqOf, dr, lenOk, ixNat, bltV, allInt, allBl, isiV, setI, wipeR, itemAt, Kst.d, bigN, Tgs.len, rngL, cmp_eq_int, cmp_ne_int, cmp_lt_int, cmp_le_int, cmp_gt_int, cmp_ge_int, add_int, sub_int, f__law_shares, r1, r2, r3, hs, dts])
    · refine ⟨[1, 1, 1], c3, rfl, fun x hx => ?_, by decide, ?_⟩
      · simp only [List.mem_cons, List.not_mem_nil, or_false] at hx
        rcases hx with rfl | rfl | rfl <;> omega
      · have hb : binV .mul (.tup [.int 1]) (.int 3) = some (.tup [.int 1, .int 1, .int 1]) := by kernel_rfl
        refine run_fin (st' := put i c3 st) (d := .tup (dts [1, 1, 1])) rfl ?_ fin_put
        (simp [startR, evSs, evS, evE, evEs, evB, evO, evL, evIt, evTg, evTgs, evC, compS, forS, Res.bind, Res.sr, ok1, ixV, ixK, items, seqOf, dr, lenOk, ixNat, bltV, allInt, allBl, isiV, setI, wipeR, itemAt, Kst.d, bigN, Tgs.len, rngL, cmp_eq_int, cmp_ne_int, cmp_lt_int, cmp_le_int, cmp_gt_int, cmp_ge_int, add_int, sub_int, f__law_shares, r1, r2, r3, hs, dts, hb])
theorem places_drawnP {F n i : Nat} {st : Hs} {m : Nat} {far : Int} (hm : m = 1 ∨ m = 2 ∨ m = 3) (a : Int × Int) (hi : i < st.length) (h1 : 1 ≤ far) (h2 : far ≤ 1000000) : ∃ p b, p.length = m ∧ (∀ x ∈ p, 1 ≤ x ∧ x ≤ far) ∧
    CC F (n + 3) i__law_places [.ref i, .int m, .int far] (put i a st) = .ok (.tup (dts p)) (put i b st) := by
  rw [call_eq (f := f__law_places) rfl]
  rcases hm with rfl | rfl | rfl
  · obtain ⟨t1, c1, a1, b1, r1⟩ := rollP (F := F) (n := n) a (far) hi (by omega) (by omega)
    refine ⟨[1 + t1], c1, rfl, fun x hx => ?_, ?_⟩
    · simp only [List.mem_cons, List.not_mem_nil, or_false] at hx
      rcases hx with rfl <;> omega
    · refine run_fin (st' := put i c1 st) (d := .tup (dts [1 + t1])) rfl ?_ fin_put
      (simp [startR, evSs, evS, evE, evEs, evB, evO, evL, evIt, evTg, evTgs, evC, compS, forS, Res.bind, Res.sr, ok1, ixV, ixK, items, seqOf, dr, lenOk, ixNat, bltV, allInt, allBl, isiV, setI, wipeR, itemAt, Kst.d, bigN, Tgs.len, rngL, cmp_eq_int, cmp_ne_int, cmp_lt_int, cmp_le_int, cmp_gt_int, cmp_ge_int, add_int, sub_int, f__law_places, r1, dts])
  · obtain ⟨t1, c1, a1, b1, r1⟩ := rollP (F := F) (n := n) a (far) hi (by omega) (by omega)
    obtain ⟨t2, c2, a2, b2, r2⟩ := rollP (F := F) (n := n) c1 (far) hi (by omega) (by omega)
    refine ⟨[1 + t1, 1 + t2], c2, rfl, fun x hx => ?_, ?_⟩
    · simp only [List.mem_cons, List.not_mem_nil, or_false] at hx
      rcases hx with rfl | rfl <;> omega
    · refine run_fin (st' := put i c2 st) (d := .tup (dts [1 + t1, 1 + t2])) rfl ?_ fin_put
      (simp [startR, evSs, evS, evE, evEs, evB, evO, evL, evIt, evTg, evTgs, evC, compS, forS, Res.bind, Res.sr, ok1, ixV, ixK, items, seqOf, dr, lenOk, ixNat, bltV, allInt, allBl, isiV, setI, wipeR, itemAt, Kst.d, bigN, Tgs.len, rngL, cmp_eq_int, cmp_ne_int, cmp_lt_int, cmp_le_int, cmp_gt_int, cmp_ge_int, add_int, sub_int, f__law_places, r1, r2, dts])
  · obtain ⟨t1, c1, a1, b1, r1⟩ := rollP (F := F) (n := n) a (far) hi (by omega) (by omega)
    obtain ⟨t2, c2, a2, b2, r2⟩ := rollP (F := F) (n := n) c1 (far) hi (by omega) (by omega)
    obtain ⟨t3, c3, a3, b3, r3⟩ := rollP (F := F) (n := n) c2 (far) hi (by omega) (by omega)
    refine ⟨[1 + t1, 1 + t2, 1 + t3], c3, rfl, fun x hx => ?_, ?_⟩
    · simp only [List.mem_cons, List.not_mem_nil, or_false] at hx
      rcases hx with rfl | rfl | rfl <;> omega
    · refine run_fin (st' := put i c3 st) (d := .tup (dts [1 + t1, 1 + t2, 1 + t3])) rfl ?_ fin_put
      (simp [startR, evSs, evS, evE, evEs, evB, evO, evL, evIt, evTg, evTgs, evC, compS, forS, Res.bind, Res.sr, ok1, ixV, ixK, items, seqOf, dr, lenOk, ixNat, bltV, allInt, allBl, isiV, setI, wipeR, itemAt, Kst.d, bigN, Tgs.len, rngL, cmp_eq_int, cmp_ne_int, cmp_lt_int, cmp_le_int, cmp_gt_int, cmp_ge_int, add_int, sub_int, f__law_places, r1, r2, r3, dts])
/-- a rule that is drawn: small shares -/
def Ru.Dr (m : Nat) : Ru → Prop
  | .ranks s => s.length = m ∧ (∀ x ∈ s, 0 ≤ x ∧ x ≤ 3) ∧ 0 < s.sum
  | .people s => s.length = m ∧ (∀ x ∈ s, 0 ≤ x ∧ x ≤ 3) ∧ 0 < s.sum
  | .near => True
  | .sets X => X ∈ antiN m
theorem Ru.Dr.ok {m : Nat} {r : Ru} (h : r.Dr m) : r.Ok m := by
  cases r with
  | ranks s => exact ⟨h.1, fun x hx => by have := h.2.1 x hx; omega, h.2.2⟩
  | people s => exact ⟨h.1, fun x hx => by have := h.2.1 x hx; omega, h.2.2⟩
  | near => trivial
  | sets X => exact h
theorem rule_drawnP {F n i : Nat} {st : Hs} {m : Nat} (hm : m = 2 ∨ m = 3) (a : Int × Int) (hi : i < st.length) (hst : nfH st = true) : ∃ r b, Ru.Dr m r ∧ CC F (n + 4) i__law_rule [.ref i, .int m] (put i a st) = .ok r.d (put i b st) := by
  rw [call_eq (f := f__law_rule) rfl]
  obtain ⟨t1, c1, a1, b1, r1⟩ := rollP (F := F) (n := n + 1) a (5) hi (by decide) (by decide)
  by_cases h2 : t1 < 2
  · obtain ⟨t2, c2, a2, b2, r2⟩ := rollP (F := F) (n := n + 1) c1 (2) hi (by decide) (by decide)
    have ht1 : t1 = 0 ∨ t1 = 1 := by omega
    have ht2 : t2 = 0 ∨ t2 = 1 := by omega
    rcases ht2 with rfl | rfl
    · obtain ⟨s, c3, e1, e2, e3, r3⟩ := shares_drawnP (F := F) (n := n) (far := 1) hm c2 hi (by decide) (by decide)
      have e2' : ∀ x ∈ s, 0 ≤ x ∧ x ≤ 3 := fun x hx => by have := e2 x hx; omega
      have r3 : CC F (n + 3) 25 [.ref i, .int m, .int 1] (put i c2 st) = .ok (.tup (dts s)) (put i c3 st) := r3
      rcases ht1 with rfl | rfl
      · refine ⟨.ranks s, c3, ⟨e1, e2', e3⟩, run_fin (st' := put i c3 st) (d := (Ru.ranks s).d) rfl ?_ fin_put⟩
        simp only [Ru.d]
        (simp [startR, evSs, evS, evE, evEs, evB, evO, evL, evIt, evTg, evTgs, evC, compS, forS, Res.bind, Res.sr, ok1, ixV, ixK, items, seqOf, dr, lenOk, ixNat, bltV, allInt, allBl, isiV, setI, wipeR, itemAt, Kst.d, bigN, Tgs.len, rngL, cmp_eq_int, cmp_ne_int, cmp_lt_int, cmp_le_int, cmp_gt_int, cmp_ge_int, add_int, sub_int, f__law_rule, r1, r2, r3])
      · refine ⟨.people s, c3, ⟨e1, e2', e3⟩, run_fin (st' := put i c3 st) (d := (Ru.people s).d) rfl ?_ fin_put⟩
        simp only [Ru.d]
        (simp [startR, evSs, evS, evE, evEs, evB, evO, evL, evIt, evTg, evTgs, evC, compS, forS, Res.bind, Res.sr, ok1, ixV, ixK, items, seqOf, dr, lenOk, ixNat, bltV, allInt, allBl, isiV, setI, wipeR, itemAt, Kst.d, bigN, Tgs.len, rngL, cmp_eq_int, cmp_ne_int, cmp_lt_int, cmp_le_int, cmp_gt_int, cmp_ge_int, add_int, sub_int, f__law_rule, r1, r2, r3])
    · obtain ⟨s, c3, e1, e2, e3, r3⟩ := shares_drawnP (F := F) (n := n) (far := 3) hm c2 hi (by decide) (by decide)
      have e2' : ∀ x ∈ s, 0 ≤ x ∧ x ≤ 3 := fun x hx => by have := e2 x hx; omega
      have r3 : CC F (n + 3) 25 [.ref i, .int m, .int 3] (put i c2 st) = .ok (.tup (dts s)) (put i c3 st) := r3
      rcases ht1 with rfl | rfl
      · refine ⟨.ranks s, c3, ⟨e1, e2', e3⟩, run_fin (st' := put i c3 st) (d := (Ru.ranks s).d) rfl ?_ fin_put⟩
        simp only [Ru.d]
        (simp [startR, evSs, evS, evE, evEs, evB, evO, evL, evIt, evTg, evTgs, evC, compS, forS, Res.bind, Res.sr, ok1, ixV, ixK, items, seqOf, dr, lenOk, ixNat, bltV, allInt, allBl, isiV, setI, wipeR, itemAt, Kst.d, bigN, Tgs.len, rngL, cmp_eq_int, cmp_ne_int, cmp_lt_int, cmp_le_int, cmp_gt_int, cmp_ge_int, add_int, sub_int, f__law_rule, r1, r2, r3])
      · refine ⟨.people s, c3, ⟨e1, e2', e3⟩, run_fin (st' := put i c3 st) (d := (Ru.people s).d) rfl ?_ fin_put⟩
        simp only [Ru.d]
        (simp [startR, evSs, evS, evE, evEs, evB, evO, evL, evIt, evTg, evTgs, evC, compS, forS, Res.bind, Res.sr, ok1, ixV, ixK, items, seqOf, dr, lenOk, ixNat, bltV, allInt, allBl, isiV, setI, wipeR, itemAt, Kst.d, bigN, Tgs.len, rngL, cmp_eq_int, cmp_ne_int, cmp_lt_int, cmp_le_int, cmp_gt_int, cmp_ge_int, add_int, sub_int, f__law_rule, r1, r2, r3])
  · by_cases h3 : t1 = 2
    · subst h3
      refine ⟨.near, c1, trivial, run_fin (st' := put i c1 st) (d := Ru.near.d) rfl ?_ fin_put⟩
      simp only [Ru.d]
      (simp [startR, evSs, evS, evE, evEs, evB, evO, evL, evIt, evTg, evTgs, evC, compS, forS, Res.bind, Res.sr, ok1, ixV, ixK, items, seqOf, dr, lenOk, ixNat, bltV, allInt, allBl, isiV, setI, wipeR, itemAt, Kst.d, bigN, Tgs.len, rngL, cmp_eq_int, cmp_ne_int, cmp_lt_int, cmp_le_int, cmp_gt_int, cmp_ge_int, add_int, sub_int, f__law_rule, r1])
    · have h3' : (t1 == 2) = false := by simpa using h3
      rcases hm with rfl | rfl
      · obtain ⟨t2, c2, a2, b2, r2⟩ := rollP (F := F) (n := n + 1) c1 (4) hi (by decide) (by decide)
        have ra : CC F (n + 3) 24 [.int 2] (put i c1 st) = .ok (.lst (anti2.map setsD)) (put i c1 st) := anti_eq2P (n := n + 1) (nfH_put hst)
        have hg : ∃ X, X ∈ antiN 2 ∧ anti2[t2.toNat]? = some X := by
          have : t2.toNat < anti2.length := by simp [anti2]; omega
          exact ⟨anti2[t2.toNat], List.getElem_mem this, List.getElem?_eq_getElem this⟩
        obtain ⟨X, hX, hX2⟩ := hg
        have hix : ∀ st, ixV st (.lst (anti2.map setsD)) (.int t2) = some (setsD X) := by
          intro st
          show (if lenOk (anti2.map setsD) = true then (match ixNat (anti2.map setsD).length t2 with | some j => (anti2.map setsD)[j]? | none => none) else none) = _
          rw [if_pos (by decide +kernel)]
          have : ixNat (anti2.map setsD).length t2 = some t2.toNat := by
            unfold ixNat
            rw [if_pos a2, if_pos (by simp [anti2]; omega)]
          rw [this]
          show (anti2.map setsD)[t2.toNat]? = _
          rw [List.getElem?_map, hX2]
          rfl
        have hlen : (anti2.map setsD).length = 4 := rfl
        refine ⟨.sets X, c2, hX, run_fin (st' := put i c2 st) (d := (Ru.sets X).d) rfl ?_ fin_put⟩
        simp only [Ru.d]
        generalize anti2.map setsD = rows at ra hix hlen
        simp [startR, evSs, evS, evE, evEs, evTg, Res.bind, Res.sr, ok1, ixK, bltV, dr, setI, Kst.d, cmp_lt_int, cmp_eq_int, f__law_rule, r1, h2, h3', ra, hlen, r2, hix]
      · obtain ⟨t2, c2, a2, b2, r2⟩ := rollP (F := F) (n := n + 1) c1 (18) hi (by decide) (by decide)
        have ra : CC F (n + 3) 24 [.int 3] (put i c1 st) = .ok (.lst (anti3.map setsD)) (put i c1 st) := anti_eq3P (n := n + 1) (nfH_put hst)
        have hg : ∃ X, X ∈ antiN 3 ∧ anti3[t2.toNat]? = some X := by
          have : t2.toNat < anti3.length := by simp [anti3]; omega
          exact ⟨anti3[t2.toNat], List.getElem_mem this, List.getElem?_eq_getElem this⟩
        obtain ⟨X, hX, hX2⟩ := hg
        have hix : ∀ st, ixV st (.lst (anti3.map setsD)) (.int t2) = some (setsD X) := by
          intro st
          show (if lenOk (anti3.map setsD) = true then (match ixNat (anti3.map setsD).length t2 with | some j => (anti3.map setsD)[j]? | none => none) else none) = _
          rw [if_pos (by decide +kernel)]
          have : ixNat (anti3.map setsD).length t2 = some t2.toNat := by
            unfold ixNat
            rw [if_pos a2, if_pos (by simp [anti3]; omega)]
          rw [this]
          show (anti3.map setsD)[t2.toNat]? = _
          rw [List.getElem?_map, hX2]
          rfl
        have hlen : (anti3.map setsD).length = 18 := rfl
        refine ⟨.sets X, c2, hX, run_fin (st' := put i c2 st) (d := (Ru.sets X).d) rfl ?_ fin_put⟩
        simp only [Ru.d]
        generalize anti3.map setsD = rows at ra hix hlen
        simp [startR, evSs, evS, evE, evEs, evTg, Res.bind, Res.sr, ok1, ixK, bltV, dr, setI, Kst.d, cmp_lt_int, cmp_eq_int, f__law_rule, r1, h2, h3', ra, hlen, r2, hix]
end U

namespace U
open PySem Rf
/-- what a round leaves: so many slots -/
def Gl (N : Nat) (cs : List (Int × Int)) (x : SR) : Prop := ∃ ρ' cs', ρ'.length = N ∧ cs'.length = cs.length ∧ x = .next ρ' (dst cs')
def sq (r : SR) (k : Rho → Hs → SR) : SR := match r with
  | .next ρ st => k ρ st
  | r => r
theorem sq_next {ρ : Rho} {st : Hs} {k : Rho → Hs → SR} : sq (.next ρ st) k = k ρ st := rfl
theorem ss_cons {C : Calls} {F : Nat} {s : S} {ss : Ss} {ρ : Rho} {st : Hs} : evSs C F (.cons s ss) ρ st = sq (evS C F s ρ st) fun ρ st => evSs C F ss ρ st := by
  show (match evS C F s ρ st with | .next ρ st => evSs C F ss ρ st | r => r) = _
  cases evS C F s ρ st <;> rfl
theorem ss_nil {C : Calls} {F : Nat} {ρ : Rho} {st : Hs} : evSs C F .nil ρ st = .next ρ st := rfl
def headS : Ss → S
  | .cons s _ => s
  | .nil => .raise ""
def forB : S → Ss
  | .for_ _ _ b => b
  | _ => .nil
/-! ### small facts -/
theorem big {r : Ru} {m : Nat} {p : List Int} (hm : m = 2 ∨ m = 3) (hl : p.length = m) (hr : r.Ok m) (hp : PlOk p) : (lt (r.val p) r.bot).natAbs < 2 ^ 40 ∧ 0 < lb (r.val p) r.bot ∧ lb (r.val p) r.bot ≤ 27 := by
  subst hl
  have h1 := val_ge hm hr (m := 1) fun a ha => (hp a ha).1
  have h2 := val_le hm hr (m := 1000000) fun a ha => (hp a ha).2
  have h3 := bot_pos hr
  have h4 := bot_le hm hr
  have h5 := lt_le (t := r.val p) h3
  have h6 := lb_le (t := r.val p) h3
  exact ⟨by omega, lb_pos h3, by omega⟩
theorem pair_ne {a b : Int} : cmpV .ne (.tup [.int a, .int b]) (.tup [.int a, .int b]) = some false := by
  show (if (true && true) = true then some (!((a == a) && ((b == b) && true))) else none) = _
  simp
theorem blt_tuple {ds : List D} {st : Hs} : bltV .tuple [.lst ds] st = some (.tup ds) := rfl
theorem min_of {p : List Int} (h : p.length = 2 ∨ p.length = 3) : ∃ mn, (∀ st, bltV .min [.tup (dts p)] st = some (.int mn)) ∧ (∀ a ∈ p, mn ≤ a) ∧ mn ∈ p := by
  match p, h with
  | [a, b], _ =>
    refine ⟨if b < a then b else a, fun st => rfl, ?_, ?_⟩
    · intro x hx
      simp only [List.mem_cons, List.not_mem_nil, or_false] at hx
      split <;> omega
    · split <;> simp
  | [a, b, c], _ =>
    refine ⟨if c < (if b < a then b else a) then c else (if b < a then b else a), fun st => rfl, ?_, ?_⟩
    · intro x hx
      simp only [List.mem_cons, List.not_mem_nil, or_false] at hx
      repeat' split
      all_goals omega
    · repeat' split
      all_goals simp
theorem max_of {p : List Int} (h : p.length = 2 ∨ p.length = 3) : ∃ mx, (∀ st, bltV .max [.tup (dts p)] st = some (.int mx)) ∧ (∀ a ∈ p, a ≤ mx) ∧ mx ∈ p := by
  match p, h with
  | [a, b], _ =>
    refine ⟨if a < b then b else a, fun st => rfl, ?_, ?_⟩
    · intro x hx
      simp only [List.mem_cons, List.not_mem_nil, or_false] at hx
      split <;> omega
    · split <;> simp
  | [a, b, c], _ =>
    refine ⟨if (if a < b then b else a) < c then c else (if a < b then b else a), fun st => rfl, ?_, ?_⟩
    · intro x hx
      simp only [List.mem_cons, List.not_mem_nil, or_false] at hx
      repeat' split
      all_goals omega
    · repeat' split
      all_goals simp
theorem mem_set_of {p : List Int} {j : Nat} {v x : Int} (h : x ∈ p.set j v) : x ∈ p ∨ x = v := List.mem_or_eq_of_mem_set h
def Ru.nm : Ru → D
  | .ranks _ => .str "ranks"
  | .people _ => .str "people"
  | .near => .str "end"
  | .sets _ => .str "sets"
theorem nm_at (r : Ru) (st : Hs) : ixV st r.d (.int 0) = some r.nm := by cases r <;> rfl
theorem nm_k (r : Ru) : ixK r.d (.int 0) = none := by cases r <;> rfl
theorem dr_nm (r : Ru) (st : Hs) : dr st r.nm = r.nm := by cases r <;> rfl
theorem dr_d (r : Ru) (st : Hs) : dr st r.d = r.d := by cases r <;> rfl
theorem dr_tup {st : Hs} {ds : List D} : dr st (.tup ds) = .tup ds := rfl
theorem dr_int {st : Hs} {i : Int} : dr st (.int i) = .int i := rfl
theorem dr_str {st : Hs} {x : Str} : dr st (.str x) = .str x := rfl
theorem nm_calm (r : Ru) : cmpV .in_ r.nm (.tup [.str "ranks", .str "end"]) = some r.calm := by cases r <;> kernel_rfl
theorem nm_near (r : Ru) : cmpV .ne r.nm (.str "end") = some (!r.isNear) := by cases r <;> kernel_rfl
def Ru.unit : Ru → Bool
  | .sets _ => true
  | .near => true
  | _ => false
theorem nm_unit (r : Ru) : cmpV .in_ r.nm (.tup [.str "sets", .str "end"]) = some r.unit := by cases r <;> kernel_rfl
theorem atP_mem {p : List Int} {i : Int} (h0 : 0 ≤ i) (h1 : i < p.length) : atP p i ∈ p := by
  have h : i.toNat < p.length := by omega
  unfold atP
  rw [List.getD_eq_getElem?_getD, List.getElem?_eq_getElem h]
  exact List.getElem_mem h
theorem unit_mem {r : Ru} {p : List Int} (hp : p.length = 2 ∨ p.length = 3) (h : r.Ok p.length) (hu : r.unit = true) : r.val p ∈ p ∧ r.bot = 1 := by
  cases r with
  | near =>
    obtain ⟨a, b⟩ := endI_mem hp
    refine ⟨?_, rfl⟩
    show wsum _ _ ∈ p
    rw [show wsum (Ru.near.sh p) p = atP p (endI p (ordP p)) from wsum_unit hp a b]
    exact atP_mem a b
  | sets X =>
    obtain ⟨a, b⟩ := setsAt_mem hp (ordP_mem hp) h
    refine ⟨?_, rfl⟩
    show wsum _ _ ∈ p
    rw [show wsum ((Ru.sets X).sh p) p = atP p (setsAt (ordP p) X) from wsum_unit hp a b]
    exact atP_mem a b
  | ranks s => cases hu
  | people s => cases hu
theorem nin_of {f : Int → D} {p : List Int} {x : Int} (hf : ∀ a, ∃ t b, f a = low t b) (hx : x ∈ p) (he : f x = .tup [.int 0, .int 1]) : cmpV .nin (.tup [.int 0, .int 1]) (.tup (p.map f)) = some false := by
  have hs : ∀ p : List Int, shDs 60 (p.map f) = true := by
    intro p
    induction p with
    | nil => simp [shDs]
    | cons a p ih =>
      obtain ⟨t, b, e⟩ := hf a
      simp only [List.map_cons, shDs, ih, e, Bool.and_true]
      rfl
  have ha : (p.map f).any (fun d => eqD d (.tup [.int 0, .int 1])) = true := by
    rw [List.any_eq_true]
    refine ⟨f x, List.mem_map.mpr ⟨x, hx, rfl⟩, ?_⟩
    rw [he]
    rfl
  show (cmpV.inV (.tup [.int 0, .int 1]) (.tup (p.map f))).map (!·) = _
  have : cmpV.inV (.tup [.int 0, .int 1]) (.tup (p.map f)) = some true := by
    show (if (shD 60 (.tup [.int 0, .int 1]) && shDs 60 (p.map f)) = true then some ((p.map f).any fun d => eqD d (.tup [.int 0, .int 1])) else none) = _
    rw [hs, ha]
    rfl
  rw [this]
  rfl
theorem mul_repI {n : Int} {m : Nat} (hm : m = 2 ∨ m = 3) : binV .mul (.tup [.int n]) (.int m) = some (.tup (dts (List.replicate m n))) := by
  rcases hm with rfl | rfl <;> rfl
theorem rep_ne {m : Nat} (hm : m = 2 ∨ m = 3) : cmpV .ne (.tup (List.replicate m (.tup [.int 0, .int 1]))) (.tup (List.replicate m (.tup [.int 0, .int 1]))) = some false := by
  rcases hm with rfl | rfl <;> kernel_rfl
end U

namespace U
open PySem Rf
/-! ### the law's own meeting, its own lowest terms -/
theorem while_gcd2 {C : Calls} {F : Nat} {st : Hs} {x y : Option D} : ∀ (f : Nat) (a b : Nat), b < f → whileN (evE C F (.cmp .ne (.v 3) (.k (.int 0)))) (evSs C F (.cons (.asg (.tup (.cons (.name 2) (.cons (.name 3) .nil))) (.tup (.cons (.v 3) (.cons (.bin .mod (.v 2) (.v 3)) .nil)))) .nil)) f [x, y, some (.int a), some (.int b)] st = .next [x, y, some (.int (Nat.gcd a b)), some (.int 0)] st := by
  intro f
  induction f with
  | zero => intro a b h; omega
  | succ f ih =>
    intro a b h
    unfold whileN
    by_cases hb : b = 0
    · subst hb
      rw [Nat.gcd_zero_right]
      rfl
    · have e1 : evE C F (.cmp .ne (.v 3) (.k (.int 0))) [x, y, some (.int a), some (.int b)] st = .ok (.bl true) st := by
        have : (!eqD (.int b) (.int 0)) = true := by
          simp [eqD, hb]
        show Res.ok (D.bl (!eqD (.int b) (.int 0))) st = _
        rw [this]
      rw [e1]
      have e2 : evSs C F (.cons (.asg (.tup (.cons (.name 2) (.cons (.name 3) .nil))) (.tup (.cons (.v 3) (.cons (.bin .mod (.v 2) (.v 3)) .nil)))) .nil) [x, y, some (.int a), some (.int b)] st = .next [x, y, some (.int b), some (.int (a % b : Nat))] st := by
        have hp : decide ((0 : Int) < (b : Int)) = true := decide_eq_true (by omega)
        have : binV .mod (.int a) (.int b) = some (.int (a % b : Nat)) := by
          show (if decide ((0 : Int) < (b : Int)) = true then some (D.int ((a : Int) % (b : Int))) else none) = _
          rw [if_pos hp]
          rfl
        have this' : binV .mod (dr st (.int a)) (dr st (.int b)) = some (.int (a % b : Nat)) := this
        simp only [evSs, evS, evE, evEs, evTg, evTgs, Res.bind, Res.sr, ok1, List.getElem?_cons_zero, List.getElem?_cons_succ, this', List.length_cons, List.length_nil, Tgs.len, if_true, setI, List.set_cons_zero, List.set_cons_succ]
      show (match evSs C F _ [x, y, some (.int a), some (.int b)] st with
        | .next ρ' st'' => whileN _ _ f ρ' st''
        | r => r) = _
      rw [e2]
      show whileN _ _ f [x, y, some (.int b), some (.int (a % b : Nat))] st = _
      rw [ih b (a % b) (by have := Nat.mod_lt a (Nat.pos_of_ne_zero hb); omega)]
      have : Nat.gcd a b = Nat.gcd b (a % b) := by rw [Nat.gcd_comm a b, Nat.gcd_rec b a, Nat.gcd_comm]
      rw [this]
theorem fraction_eq {F n : Nat} {t b : Int} {st : Hs} (h0 : 0 < b) (h : b.natAbs < F) (hd : divOk (Int.gcd t b) = true) : CC F (n + 1) 34 [.int t, .int b] st = .ok (low t b) st := by
  rw [call_eq (f := f__law_fraction) rfl]
  refine run_of rfl ?_
  show evSs _ _ f__law_fraction.body [some (.int t), some (.int b), none, none] st = _
  have ab : ∀ i : Int, (if i < 0 then -i else i) = (i.natAbs : Int) := fun i => by split <;> omega
  have eb : b = (b.natAbs : Int) := by omega
  have e1 : evS (CC F n) F (.asg (.tup (.cons (.name 2) (.cons (.name 3) .nil))) (.tup (.cons (.blt .abs (.cons (.v 0) .nil)) (.cons (.v 1) .nil)))) [some (.int t), some (.int b), none, none] st = .next [some (.int t), some (.int b), some (.int t.natAbs), some (.int b.natAbs)] st := by
    rw [← ab t, ← eb]
    rfl
  have e2 : evS (CC F n) F (.while_ (.cmp .ne (.v 3) (.k (.int 0))) (.cons (.asg (.tup (.cons (.name 2) (.cons (.name 3) .nil))) (.tup (.cons (.v 3) (.cons (.bin .mod (.v 2) (.v 3)) .nil)))) .nil)) [some (.int t), some (.int b), some (.int t.natAbs), some (.int b.natAbs)] st = .next [some (.int t), some (.int b), some (.int (Nat.gcd t.natAbs b.natAbs)), some (.int 0)] st :=
    while_gcd2 (C := CC F n) (F := F) (st := st) F t.natAbs b.natAbs h
  refine (ss_nx e1).trans ((ss_nx e2).trans (ss_rt ?_))
  have f1 : binV .fdiv (.int t) (.int (Int.gcd t b)) = some (.int (t / Int.gcd t b)) := by
    show (if divOk (Int.gcd t b) = true then some (D.int (t / Int.gcd t b)) else none) = _
    rw [if_pos hd]
  have f2 : binV .fdiv (.int b) (.int (Int.gcd t b)) = some (.int (b / Int.gcd t b)) := by
    show (if divOk (Int.gcd t b) = true then some (D.int (b / Int.gcd t b)) else none) = _
    rw [if_pos hd]
  show (((ok1 st (binV .fdiv (.int t) (.int (Int.gcd t b)))).bind fun d st => (((ok1 st (binV .fdiv (.int b) (.int (Int.gcd t b)))).bind fun d st => Res.ok [d] st)).bind fun ds st => Res.ok (d :: ds) st).bind fun ds st => Res.ok (D.tup ds) st).sr (fun d st => SR.ret d st) = _
  rw [f1, f2]
  rfl
/-! ### the law's own meeting -/
theorem own_sorted {C : Calls} {F : Nat} {ρ : Rho} {st : Hs} {p : List Int} (hl : p.length = 2 ∨ p.length = 3) (h1 : ρ[1]? = some (some (.tup (dts p)))) : evL C F (.sorted (.v 1)) ρ st = .ok (dts (srtP p)) st := by
  show (evE C F (.v 1) ρ st).bind _ = _
  rw [ev_v h1]
  show ok1 st (sortedV st (.tup (dts p))) = _
  have : sortedV st (.tup (dts p)) = some (dts (srtP p)) := by
    show (if (lenOk (dts p) && sortable (dts p) && sortShape (dts p)) = true then some (sortD (dts p)) else none) = _
    rw [sort_eq hl, if_pos]
    match p, hl with
    | [a, b], _ => rfl
    | [a, b, c], _ => rfl
  rw [this]
  rfl
theorem t_eq {x y : Str} {b : Bool} (h1 : strOkB x = true) (h2 : strOkB y = true) (h : (x == y) = b) : cmpV .eq (.str x) (.str y) = some b := by rw [cmp_eq_str h1 h2, h]
theorem srt_two {p : List Int} (h : p.length = 2) : ∃ x y, srtP p = [x, y] := by
  have := srt_len (p := p) (.inl h)
  rw [h] at this
  match srtP p, this with
  | [x, y], _ => exact ⟨x, y, rfl⟩
theorem srt_three {p : List Int} (h : p.length = 3) : ∃ x y z, srtP p = [x, y, z] := by
  have := srt_len (p := p) (.inr h)
  rw [h] at this
  match srtP p, this with
  | [x, y, z], _ => exact ⟨x, y, z, rfl⟩
end U

namespace U
open PySem Rf
def maxF (xs : List Int) : Int := (maxI xs).getD 0
def minF (xs : List Int) : Int := (minI xs).getD 0
theorem maxF_eq {xs : List Int} (h : 1 ≤ xs.length) (h3 : xs.length ≤ 3) : maxF xs = maxL xs := by
  match xs, h, h3 with
  | [a], _, _ => rfl
  | [a, b], _, _ =>
    by_cases q : a < b <;> simp [maxF, maxI, maxL, q]
  | [a, b, c], _, _ =>
    simp only [maxF, maxI, maxL, List.foldl, Option.getD_some]
    repeat' split
    all_goals omega
theorem minF_eq {xs : List Int} (h : 1 ≤ xs.length) (h3 : xs.length ≤ 3) : minF xs = minL xs := by
  match xs, h, h3 with
  | [a], _, _ => rfl
  | [a, b], _, _ =>
    by_cases q : b < a <;> simp [minF, minI, minL, q]
  | [a, b, c], _, _ =>
    simp only [minF, minI, minL, List.foldl, Option.getD_some]
    repeat' split
    all_goals omega
def setF (X : List (List Int)) (p : List Int) : Int := minF (X.map fun one => maxF (one.map (atP p)))
theorem setF_eq {m : Nat} {X : List (List Int)} {p : List Int} (hm : m = 2 ∨ m = 3) (hX : X ∈ antiN m) : setF X p = setVal X p := by
  have key : ∀ m ∈ [2, 3], (antiN m).all (fun X => decide (1 ≤ X.length) && decide (X.length ≤ 3) && X.all fun one => decide (1 ≤ one.length) && decide (one.length ≤ 3)) = true := by decide +kernel
  have h := List.all_eq_true.mp (key m (by rcases hm with rfl | rfl <;> simp)) X hX
  simp only [Bool.and_eq_true, decide_eq_true_eq, List.all_eq_true] at h
  unfold setF setVal
  rw [minF_eq (by rw [List.length_map]; exact h.1.1) (by rw [List.length_map]; exact h.1.2)]
  congr 1
  apply List.map_congr_left
  intro one ho
  exact maxF_eq (by rw [List.length_map]; exact (h.2 one ho).1) (by rw [List.length_map]; exact (h.2 one ho).2)
theorem nm_eq (r : Ru) (z : Str) (b : Bool) (h : cmpV .eq r.nm (.str z) = some b) {C : Calls} {F : Nat} {ρ : Rho} {st : Hs} : evE C F (.cmp .eq (.ix (.v 0) (.k (.int 0))) (.k (.str z))) (some r.d :: ρ) st = .ok (.bl b) st := by
  simp [evE, Res.bind, ok1, Kst.d, nm_at, nm_k, dr_nm, dr_str, h]
theorem lt_small {x : Int} (h : 0 ≤ x ∧ x ≤ 9) : x.natAbs < 2 ^ 64 := by omega
/-- the law's own meeting -/
theorem own_eq {F n : Nat} {r : Ru} {p : List Int} {st : Hs} (hp : p.length = 2 ∨ p.length = 3) (hr : r.Ok p.length) : CC F (n + 1) 33 [r.d, .tup (dts p)] st = .ok (.tup [.int (r.val p), .int r.bot]) st := by
  rw [call_eq (f := f__law_meeting) rfl]
  refine run_of rfl ?_
  have e1 : ∀ R : D, evS (CC F n) F (headS f__law_meeting.body) [some R, some (.tup (dts p)), none, none, none, none] st = .next [some R, some (.tup (dts p)), some (.lst (dts (srtP p))), none, none, none] st := by
    intro R
    show ((evL (CC F n) F (.sorted (.v 1)) [some R, some (.tup (dts p)), none, none, none, none] st).bind _).sr _ = _
    rw [own_sorted (p := p) hp rfl]
    rfl
  refine (ss_nx (e1 r.d)).trans ?_
  cases r with
  | people s =>
    obtain ⟨h1, h2, h3⟩ := hr
    refine ss_rt ((ife_t (nm_eq (.people s) "people" true (by kernel_rfl))).trans ?_)
    match p, s, hp, h1, h2 with
    | [a, b], [x, y], _, _, h2 =>
      have m1 : binV .mul (.int x) (.int a) = some (.int (x * a)) := mul_eq (lt_small (h2 x (by simp)))
      have m2 : binV .mul (.int y) (.int b) = some (.int (y * b)) := mul_eq (lt_small (h2 y (by simp)))
      (simp [startR, evSs, evS, evE, evEs, evB, evO, evL, evIt, evTg, evTgs, evC, compS, forS, Res.bind, Res.sr, ok1, ixV, ixK, items, seqOf, dr, lenOk, ixNat, bltV, allInt, allBl, isiV, setI, wipeR, itemAt, Kst.d, bigN, Tgs.len, rngL, cmp_eq_int, cmp_ne_int, cmp_lt_int, cmp_le_int, cmp_gt_int, cmp_ge_int, add_int, sub_int, Ru.d, dts, m1, m2, Ru.val, Ru.bot, Ru.sh, wsum])
    | [a, b, c], [x, y, z], _, _, h2 =>
      have m1 : binV .mul (.int x) (.int a) = some (.int (x * a)) := mul_eq (lt_small (h2 x (by simp)))
      have m2 : binV .mul (.int y) (.int b) = some (.int (y * b)) := mul_eq (lt_small (h2 y (by simp)))
      have m3 : binV .mul (.int z) (.int c) = some (.int (z * c)) := mul_eq (lt_small (h2 z (by simp)))
      (simp [startR, evSs, evS, evE, evEs, evB, evO, evL, evIt, evTg, evTgs, evC, compS, forS, Res.bind, Res.sr, ok1, ixV, ixK, items, seqOf, dr, lenOk, ixNat, bltV, allInt, allBl, isiV, setI, wipeR, itemAt, Kst.d, bigN, Tgs.len, rngL, cmp_eq_int, cmp_ne_int, cmp_lt_int, cmp_le_int, cmp_gt_int, cmp_ge_int, add_int, sub_int, Ru.d, dts, m1, m2, m3, Ru.val, Ru.bot, Ru.sh, wsum])
  | ranks s =>
    obtain ⟨h1, h2, h3⟩ := hr
    rw [val_ranks hp h1]
    refine (ss_nx ((ife_f (nm_eq (.ranks s) "people" false (by kernel_rfl))).trans rfl)).trans (ss_rt ((ife_t (nm_eq (.ranks s) "ranks" true (by kernel_rfl))).trans ?_))
    rcases hp with hp | hp
    · obtain ⟨a, b, e⟩ := srt_two hp
      rw [e]
      match s, (h1.trans hp), h2 with
      | [x, y], _, h2 =>
        have m1 : binV .mul (.int x) (.int a) = some (.int (x * a)) := mul_eq (lt_small (h2 x (by simp)))
        have m2 : binV .mul (.int y) (.int b) = some (.int (y * b)) := mul_eq (lt_small (h2 y (by simp)))
        generalize dts p = P
        (simp [startR, evSs, evS, evE, evEs, evB, evO, evL, evIt, evTg, evTgs, evC, compS, forS, Res.bind, Res.sr, ok1, ixV, ixK, items, seqOf, dr, lenOk, ixNat, bltV, allInt, allBl, isiV, setI, wipeR, itemAt, Kst.d, bigN, Tgs.len, rngL, cmp_eq_int, cmp_ne_int, cmp_lt_int, cmp_le_int, cmp_gt_int, cmp_ge_int, add_int, sub_int, Ru.d, dts, m1, m2, Ru.bot, wsum])
    · obtain ⟨a, b, c, e⟩ := srt_three hp
      rw [e]
      match s, (h1.trans hp), h2 with
      | [x, y, z], _, h2 =>
        have m1 : binV .mul (.int x) (.int a) = some (.int (x * a)) := mul_eq (lt_small (h2 x (by simp)))
        have m2 : binV .mul (.int y) (.int b) = some (.int (y * b)) := mul_eq (lt_small (h2 y (by simp)))
        have m3 : binV .mul (.int z) (.int c) = some (.int (z * c)) := mul_eq (lt_small (h2 z (by simp)))
        generalize dts p = P
        (simp [startR, evSs, evS, evE, evEs, evB, evO, evL, evIt, evTg, evTgs, evC, compS, forS, Res.bind, Res.sr, ok1, ixV, ixK, items, seqOf, dr, lenOk, ixNat, bltV, allInt, allBl, isiV, setI, wipeR, itemAt, Kst.d, bigN, Tgs.len, rngL, cmp_eq_int, cmp_ne_int, cmp_lt_int, cmp_le_int, cmp_gt_int, cmp_ge_int, add_int, sub_int, Ru.d, dts, m1, m2, m3, Ru.bot, wsum])
  | near =>
    rw [val_near hp]
    refine (ss_nx ((ife_f (nm_eq .near "people" false (by kernel_rfl))).trans rfl)).trans ((ss_nx ((ife_f (nm_eq .near "ranks" false (by kernel_rfl))).trans rfl)).trans ((ss_nx ((ife_f (nm_eq .near "sets" false (by kernel_rfl))).trans rfl)).trans ?_))
    rcases hp with hp | hp
    · obtain ⟨a, b, e⟩ := srt_two hp
      rw [e]
      generalize dts p = P
      (simp [startR, evSs, evS, evE, evEs, evB, evO, evL, evIt, evTg, evTgs, evC, compS, forS, Res.bind, Res.sr, ok1, ixV, ixK, items, seqOf, dr, lenOk, ixNat, bltV, allInt, allBl, isiV, setI, wipeR, itemAt, Kst.d, bigN, Tgs.len, rngL, cmp_eq_int, cmp_ne_int, cmp_lt_int, cmp_le_int, cmp_gt_int, cmp_ge_int, add_int, sub_int, Ru.d, dts, Ru.bot, nearV])
    · obtain ⟨a, b, c, e⟩ := srt_three hp
      rw [e]
      generalize dts p = P
      by_cases hlt : c - b < b - a
      · have : ¬ (b - a ≤ c - b) := by omega
        (simp [startR, evSs, evS, evE, evEs, evB, evO, evL, evIt, evTg, evTgs, evC, compS, forS, Res.bind, Res.sr, ok1, ixV, ixK, items, seqOf, dr, lenOk, ixNat, bltV, allInt, allBl, isiV, setI, wipeR, itemAt, Kst.d, bigN, Tgs.len, rngL, cmp_eq_int, cmp_ne_int, cmp_lt_int, cmp_le_int, cmp_gt_int, cmp_ge_int, add_int, sub_int, Ru.d, dts, Ru.bot, nearV, hlt, this])
      · have : b - a ≤ c - b := by omega
        (simp [startR, evSs, evS, evE, evEs, evB, evO, evL, evIt, evTg, evTgs, evC, compS, forS, Res.bind, Res.sr, ok1, ixV, ixK, items, seqOf, dr, lenOk, ixNat, bltV, allInt, allBl, isiV, setI, wipeR, itemAt, Kst.d, bigN, Tgs.len, rngL, cmp_eq_int, cmp_ne_int, cmp_lt_int, cmp_le_int, cmp_gt_int, cmp_ge_int, add_int, sub_int, Ru.d, dts, Ru.bot, nearV, hlt, this])
  | sets X =>
    rw [val_sets hp hr, ← setF_eq hp hr]
    refine (ss_nx ((ife_f (nm_eq (.sets X) "people" false (by kernel_rfl))).trans rfl)).trans ((ss_nx ((ife_f (nm_eq (.sets X) "ranks" false (by kernel_rfl))).trans rfl)).trans (ss_rt ((ife_t (nm_eq (.sets X) "sets" true (by kernel_rfl))).trans ?_)))
    generalize dts (srtP p) = P
    match p, hp, hr with
    | [a, b], _, hr =>
      have hX : X ∈ anti2 := hr
      simp only [anti2, List.mem_cons, List.not_mem_nil, or_false] at hX
      rcases hX with rfl | rfl | rfl | rfl <;> kernel_rfl
    | [a, b, c], _, hr =>
      have hX : X ∈ anti3 := hr
      simp only [anti3, List.mem_cons, List.not_mem_nil, or_false] at hX
      rcases hX with rfl | rfl | rfl | rfl | rfl | rfl | rfl | rfl | rfl | rfl | rfl | rfl | rfl | rfl | rfl | rfl | rfl | rfl <;> kernel_rfl
end U

namespace U
open PySem Rf
/-! ### what the defs answer at any heap without cells in cells -/
theorem nfs_dts : ∀ s : List Int, nfs (dts s) = true
  | [] => rfl
  | x :: s => by
    have := nfs_dts s
    simp only [dts, List.map_cons, nfs, nf, Bool.true_and] at this ⊢
    exact this
theorem nfs_sets : ∀ X : List (List Int), nfs (X.map fun one => D.tup (dts one)) = true
  | [] => rfl
  | x :: X => by
    simp only [List.map_cons, nfs, nf, nfs_dts, nfs_sets X, Bool.and_self]
theorem nf_d (r : Ru) : nf r.d = true := by
  cases r with
  | ranks s => simp only [Ru.d, nf, nfs, nfs_dts, Bool.and_self]
  | people s => simp only [Ru.d, nf, nfs, nfs_dts, Bool.and_self]
  | near => rfl
  | sets X => simp only [Ru.d, setsD, nf, nfs, nfs_sets, Bool.and_self]
theorem nf_low (t b : Int) : nf (low t b) = true := rfl
theorem dst_nil : dst [] = [] := rfl
variable {F n m : Nat} {st : Hs} {r : Ru} {p : List Int}
theorem ruleH (hm : m = 2 ∨ m = 3) (hr : r.Ok m) (hs : nfH st = true) : CC F (n + 3) 7 [r.d, .int m] st = .ok (.bl true) st :=
  frame (rule_ok (F := F) hm hr n [] (by decide)) (by simp only [nfs, nf, nf_d, Bool.and_self]) rfl _ (nfH_shut hs)
theorem need_ruleH (hm : m = 2 ∨ m = 3) (hr : r.Ok m) (hs : nfH st = true) : CC F (n + 4) 8 [.int m, r.d] st = .ok .non st :=
  frame (need_rule_eq (F := F) (n := n) (cs := []) (by decide) (rule_ok hm hr)) (by simp only [nfs, nf, nf_d, Bool.and_self]) rfl _ (nfH_shut hs)
theorem mofH (hm : m = 2 ∨ m = 3) (hl : p.length = m) (hr : r.Ok m) (hs : nfH st = true) : CC F (n + 4) 15 [r.d, .tup (dts p)] st = .ok (.tup [.int (r.val p), .int r.bot]) st := by
  subst hl
  have := meeting_of_eq (F := F) (n := n) (cs := []) (R := r.d) (p := p) (s := r.sh p) hm (by decide) (sh_ok hm hr)
  rw [sh_sum hm hr] at this
  exact frame this (by simp only [nfs, nf, nf_d, nfs_dts, Bool.and_self]) rfl _ (nfH_shut hs)
theorem lowH (hr : r.Ok m) (hm : m = 2 ∨ m = 3) (hF : 27 < F) {t : Int} : CC F (n + 2) 14 [.int t, .int r.bot] st = .ok (low t r.bot) st := by
  have h1 := bot_pos hr
  have h2 := bot_le hm hr
  exact lowest_eq (n := n) (by omega) (gcd_ok h1 h2)
theorem fracH (hr : r.Ok m) (hm : m = 2 ∨ m = 3) (hF : 27 < F) {t : Int} : CC F (n + 1) 34 [.int t, .int r.bot] st = .ok (low t r.bot) st := by
  have h1 := bot_pos hr
  have h2 := bot_le hm hr
  exact fraction_eq h1 (by omega) (gcd_ok h1 h2)
theorem meetH (hm : m = 2 ∨ m = 3) (hl : p.length = m) (hr : r.Ok m) (hp : PlOk p) (hF : 27 < F) (hs : nfH st = true) : CC F (n + 6) 17 [.int m, r.d, .tup (dts p)] st = .ok (low (r.val p) r.bot) st := by
  subst hl
  have := meeting_eq (F := F) (n := n) (cs := []) (R := r.d) (p := p) (s := r.sh p) (m := p.length) hF hm rfl (by decide) (rule_ok hm hr) (places_ok hm rfl hp) (sh_ok hm hr)
  rw [sh_sum hm hr] at this
  exact frame this (by simp only [nfs, nf, nf_d, nfs_dts, Bool.and_self]) rfl _ (nfH_shut hs)
theorem nfs_map_low : ∀ (p : List Int) (f g : Int → Int), nfs (p.map fun a => low (f a) (g a)) = true
  | [], _, _ => rfl
  | a :: p, f, g => by simp only [List.map_cons, nfs, nf_low, nfs_map_low p, Bool.and_self]
theorem waysH (hm : m = 2 ∨ m = 3) (hl : p.length = m) (hr : r.Ok m) (hp : PlOk p) (hF : 27 < F) (hs : nfH st = true) : CC F (n + 6) 18 [.int m, r.d, .tup (dts p)] st = .ok (.tup (p.map fun a => low (absI (r.bot * a - r.val p)) r.bot)) st := by
  subst hl
  have := ways_eq (F := F) (n := n) (cs := []) (R := r.d) (p := p) (s := r.sh p) (m := p.length) hF hm rfl (by decide) (rule_ok hm hr) (places_ok hm rfl hp) (sh_ok hm hr)
  unfold waysD at this
  rw [sh_sum hm hr] at this
  exact frame this (by simp only [nfs, nf, nf_d, nfs_dts, Bool.and_self]) (by simp only [nf]; exact nfs_map_low p _ _) _ (nfH_shut hs)
theorem need_placesH (hm : m = 2 ∨ m = 3) (hl : p.length = m) (hp : PlOk p) : CC F (n + 3) 10 [.int m, .tup (dts p)] st = .ok .non st := need_places_eq (places_ok hm hl hp)
theorem ownH (hm : m = 2 ∨ m = 3) (hl : p.length = m) (hr : r.Ok m) : CC F (n + 1) 33 [r.d, .tup (dts p)] st = .ok (.tup [.int (r.val p), .int r.bot]) st := by
  subst hl
  exact own_eq hm hr
end U

namespace U
open PySem Rf
theorem run_ex {C : Calls} {F : Nat} {f : Fn} {as : List D} {st : Hs} {c : Str} (hl : as.length = f.pars) (h : evSs C F f.body (startR f as) st = .exc c st) : runFn C F f as st = .exc c st := by
  unfold runFn
  rw [if_pos hl, h]
  show (if Nat.ble st.length st.length = true then _ else _) = _
  rw [if_pos (Nat.ble_eq_true_of_le (Nat.le_refl _))]
/-! ### a road's cell -/
def rf3 (R : D) (rows und : List D) : List (Str × D) := [("rule", R), ("rows", .lst rows), ("undone", .lst und)]
abbrev roadO (R : D) (rows und : List D) : O := .ins "Road" (rf3 R rows und)
theorem lk_rule {R : D} {w u : List D} : List.lookup ("rule" : Str) (rf3 R w u) = some R := by kernel_rfl
theorem lk_rows {R : D} {w u : List D} : List.lookup ("rows" : Str) (rf3 R w u) = some (.lst w) := by kernel_rfl
theorem lk_und {R : D} {w u : List D} : List.lookup ("undone" : Str) (rf3 R w u) = some (.lst u) := by kernel_rfl
theorem lk_places {R : D} {w u : List D} : List.lookup ("places" : Str) (rf3 R w u) = none := by kernel_rfl
theorem lk_meeting {R : D} {w u : List D} : List.lookup ("meeting" : Str) (rf3 R w u) = none := by kernel_rfl
theorem lk_tell {R : D} {w u : List D} : List.lookup ("tell" : Str) (rf3 R w u) = none := by kernel_rfl
theorem lk_undo {R : D} {w u : List D} : List.lookup ("undo" : Str) (rf3 R w u) = none := by kernel_rfl
theorem lk_redo {R : D} {w u : List D} : List.lookup ("redo" : Str) (rf3 R w u) = none := by kernel_rfl
theorem pt_rows {R : D} {w u w' : List D} : putD "rows" (.lst w') (rf3 R w u) = rf3 R w' u := by kernel_rfl
theorem pt_und {R : D} {w u u' : List D} : putD "undone" (.lst u') (rf3 R w u) = rf3 R w u' := by kernel_rfl
theorem rf3_len {R : D} {w u : List D} : Nat.blt (rf3 R w u).length 100 = true := by kernel_rfl
theorem rf3_lt {R : D} {w u : List D} : (rf3 R w u).length < 100 := by show 3 < 100; decide
theorem lenOk_nil : lenOk ([] : List D) = true := rfl
theorem lenOk_one {d : D} : lenOk [d] = true := rfl
/-! ### rows of places -/
def rowsD (rs : List (List Int)) : List D := rs.map fun p => .tup (dts p)
theorem rowsD_len (rs : List (List Int)) : (rowsD rs).length = rs.length := List.length_map ..
theorem rowsD_app (rs ss : List (List Int)) : rowsD (rs ++ ss) = rowsD rs ++ rowsD ss := List.map_append ..
theorem nfs_rows : ∀ rs : List (List Int), nfs (rowsD rs) = true := nfs_sets
theorem ix_last {st : Hs} {rs : List (List Int)} {p : List Int} (h : rs.length ≤ 1000) : ixV st (.lst (rowsD (rs ++ [p]))) (.int (-1)) = some (.tup (dts p)) := by
  show (if lenOk (rowsD (rs ++ [p])) = true then (match ixNat (rowsD (rs ++ [p])).length (-1) with | some j => (rowsD (rs ++ [p]))[j]? | none => none) else none) = _
  have hl : (rowsD (rs ++ [p])).length = rs.length + 1 := by rw [rowsD_len, List.length_append]; rfl
  rw [if_pos (lenOk_le (by rw [hl]; omega)), hl]
  have : ixNat (rs.length + 1) (-1) = some rs.length := by
    unfold ixNat
    rw [if_neg (by decide), if_pos (by omega)]
    congr 1
    omega
  rw [this]
  show (rowsD (rs ++ [p]))[rs.length]? = _
  rw [rowsD_app, ← rowsD_len rs, List.getElem?_append_right (Nat.le_refl _), Nat.sub_self]
  rfl
theorem ix_last2 {st : Hs} {rs : List (List Int)} {p q : List Int} (h : rs.length ≤ 1000) : ixV st (.lst (rowsD (rs ++ [p] ++ [q]))) (.int (-2)) = some (.tup (dts p)) := by
  show (if lenOk (rowsD (rs ++ [p] ++ [q])) = true then (match ixNat (rowsD (rs ++ [p] ++ [q])).length (-2) with | some j => (rowsD (rs ++ [p] ++ [q]))[j]? | none => none) else none) = _
  have hl : (rowsD (rs ++ [p] ++ [q])).length = rs.length + 2 := by rw [rowsD_len]; simp
  rw [if_pos (lenOk_le (by rw [hl]; omega)), hl]
  have : ixNat (rs.length + 2) (-2) = some rs.length := by
    unfold ixNat
    rw [if_neg (by decide), if_pos (by omega)]
    congr 1
    omega
  rw [this]
  show (rowsD (rs ++ [p] ++ [q]))[rs.length]? = _
  rw [List.append_assoc, rowsD_app, ← rowsD_len rs, List.getElem?_append_right (Nat.le_refl _), Nat.sub_self]
  rfl
theorem sl_front {rs : List (List Int)} {p : List Int} : slV (.lst (rowsD (rs ++ [p]))) none (some (-1)) = some (.lst (rowsD rs)) := by
  show some (D.lst (cut (rowsD (rs ++ [p])) none (some (-1)))) = _
  have hl : (rowsD (rs ++ [p])).length = rs.length + 1 := by rw [rowsD_len, List.length_append]; rfl
  have e : cut (rowsD (rs ++ [p])) none (some (-1)) = rowsD rs := by
    unfold cut
    rw [hl]
    have h1 : sIxN (rs.length + 1) 0 none = 0 := rfl
    have h2 : sIxN (rs.length + 1) (rs.length + 1) (some (-1)) = rs.length := by
      simp only [sIxN]
      rw [if_pos (by decide)]
      omega
    rw [h1, h2, List.drop_zero, Nat.sub_zero, rowsD_app, ← rowsD_len rs, List.take_left]
  rw [e]
theorem sl_tail {p : List Int} {rs : List (List Int)} : slV (.lst (rowsD (p :: rs))) (some 1) none = some (.lst (rowsD rs)) := by
  show some (D.lst (cut (rowsD (p :: rs)) (some 1) none)) = _
  have e : cut (rowsD (p :: rs)) (some 1) none = rowsD rs := by
    unfold cut
    have hl : (rowsD (p :: rs)).length = rs.length + 1 := by rw [rowsD_len]; rfl
    rw [hl]
    have h1 : sIxN (rs.length + 1) 0 (some 1) = 1 := by
      simp only [sIxN]
      rw [if_neg (by decide)]
      omega
    have h2 : sIxN (rs.length + 1) (rs.length + 1) none = rs.length + 1 := rfl
    rw [h1, h2, Nat.add_sub_cancel]
    show (rowsD rs).take rs.length = _
    rw [← rowsD_len rs, List.take_length]
  rw [e]
theorem dr_lst {st : Hs} {ds : List D} : dr st (.lst ds) = .lst ds := rfl
theorem dr_low {st : Hs} {a b : Int} : dr st (low a b) = low a b := rfl
theorem add_lst {a b : List D} (ha : a.length ≤ 1000) (hb : b.length ≤ 1000) : binV .add (.lst a) (.lst b) = some (.lst (a ++ b)) := by
  show (if (lenOk a && lenOk b) = true then some (D.lst (a ++ b)) else none) = _
  rw [lenOk_le (by omega), lenOk_le (by omega)]
  rfl
/-! ### one person's place told anew -/
theorem re_place {p : List Int} {j v : Int} (hl : p.length = 2 ∨ p.length = 3) (h0 : 0 ≤ j) (h1 : j < p.length) : ∃ a b, slV (.tup (dts p)) none (some j) = some (.tup a) ∧ slV (.tup (dts p)) (some (j + 1)) none = some (.tup b) ∧ binV .add (.tup a) (.tup [.int v]) = some (.tup (a ++ [.int v])) ∧ binV .add (.tup (a ++ [.int v])) (.tup b) = some (.tup (dts (p.set j.toNat v))) := by
  have hj : j = 0 ∨ j = 1 ∨ (j = 2 ∧ p.length = 3) := by omega
  match p, hl with
  | [x, y], _ =>
    rcases hj with rfl | rfl | ⟨rfl, h⟩
    · exact ⟨[], [.int y], by kernel_rfl, by kernel_rfl, by kernel_rfl, by kernel_rfl⟩
    · exact ⟨[.int x], [], by kernel_rfl, by kernel_rfl, by kernel_rfl, by kernel_rfl⟩
    · simp at h
  | [x, y, z], _ =>
    rcases hj with rfl | rfl | ⟨rfl, h⟩
    · exact ⟨[], [.int y, .int z], by kernel_rfl, by kernel_rfl, by kernel_rfl, by kernel_rfl⟩
    · exact ⟨[.int x], [.int z], by kernel_rfl, by kernel_rfl, by kernel_rfl, by kernel_rfl⟩
    · exact ⟨[.int x, .int y], [], by kernel_rfl, by kernel_rfl, by kernel_rfl, by kernel_rfl⟩
/-! ### the defs of a road -/
section
variable {F k n m : Nat} {st : Hs} {r : Ru} {rs us : List (List Int)} {p : List Int}
theorem places_road {u : List D} {R : D} (h : st[n]? = some (roadO R (rowsD (rs ++ [p])) u)) (hl : rs.length ≤ 1000) : CC F (k + 1) 112 [.ref n] st = .ok (.tup (dts p)) st := by
  rw [call_eq (f := f_Road_places) rfl]
  refine run_of rfl ?_
  have e := ix_last (st := st) (p := p) hl
  simp [startR, evSs, evS, evE, Res.bind, Res.sr, ok1, ixK, Kst.d, f_Road_places, h, lk_rows, e]
theorem meeting_road {u : List D} (hm : m = 2 ∨ m = 3) (hp : p.length = m) (hr : r.Ok m) (hF : 27 < F) (hs : nfH st = true) (h : st[n]? = some (roadO r.d (rowsD (rs ++ [p])) u)) (hl : rs.length ≤ 1000) : CC F (k + 6) 113 [.ref n] st = .ok (low (r.val p) r.bot) st := by
  rw [call_eq (f := f_Road_meeting) rfl]
  refine run_of rfl ?_
  have e1 : CC F (k + 5) 112 [.ref n] st = .ok (.tup (dts p)) st := places_road (k := k + 4) h hl
  have e2 : CC F (k + 5) 15 [r.d, .tup (dts p)] st = .ok (.tup [.int (r.val p), .int r.bot]) st := mofH (n := k + 1) hm hp hr hs
  have e3 : CC F (k + 5) 14 [.int (r.val p), .int r.bot] st = .ok (low (r.val p) r.bot) st := lowH (n := k + 3) hr hm hF
  simp [startR, evSs, evS, evE, evEs, evTg, evTgs, Res.bind, Res.sr, ok1, Tgs.len, setI, f_Road_meeting, h, lk_rule, lk_places, e1, e2, e3]
theorem len_road {u : List D} {R : D} (h : st[n]? = some (roadO R (rowsD (p :: rs)) u)) : CC F (k + 1) 117 [.ref n] st = .ok (.int rs.length) st := by
  rw [call_eq (f := f_Road__len_) rfl]
  refine run_of rfl ?_
  have e := sl_tail (p := p) (rs := rs)
  simp [startR, evSs, evS, evE, evEs, evO, Res.bind, Res.sr, ok1, Kst.d, f_Road__len_, h, lk_rows, dr, e, bltV, rowsD_len]
/-- tell: refused -/
theorem tell_person {u : List D} {R d v : D} (h : st[n]? = some (roadO R (rowsD (rs ++ [p])) u)) (hl : rs.length ≤ 1000) (hw : CC F (k + 1) 2 [d, .int 0, .int ((p.length : Int) - 1)] st = .ok (.bl false) st) : CC F (k + 2) 114 [.ref n, d, v] st = .exc "InvalidPeople" st := by
  rw [call_eq (f := f_Road_tell) rfl]
  refine run_ex rfl ?_
  have e1 : CC F (k + 1) 112 [.ref n] st = .ok (.tup (dts p)) st := places_road h hl
  have e2 : bltV .len [.tup (dts p)] st = some (.int p.length) := by show some (D.int ((dts p).length : Int)) = _; rw [dts_len]
  simp [startR, evSs, evS, evE, evEs, evTg, Res.bind, Res.sr, ok1, setI, Kst.d, dr, f_Road_tell, h, lk_places, e1, e2, sub_int, hw]
theorem tell_place {u : List D} {R v : D} {j : Int} (h : st[n]? = some (roadO R (rowsD (rs ++ [p])) u)) (hl : rs.length ≤ 1000) (h0 : 0 ≤ j) (h1 : j < p.length) (hw : CC F (k + 1) 2 [v, .int 1, .int 1000000] st = .ok (.bl false) st) : CC F (k + 2) 114 [.ref n, .int j, v] st = .exc "InvalidPlaces" st := by
  rw [call_eq (f := f_Road_tell) rfl]
  refine run_ex rfl ?_
  have e1 : CC F (k + 1) 112 [.ref n] st = .ok (.tup (dts p)) st := places_road h hl
  have e2 : bltV .len [.tup (dts p)] st = some (.int p.length) := by show some (D.int ((dts p).length : Int)) = _; rw [dts_len]
  have e3 : CC F (k + 1) 2 [.int j, .int 0, .int ((p.length : Int) - 1)] st = .ok (.bl true) st := by
    have := is_whole_eq (F := F) (n := k) (v := j) (lo := 0) (hi := (p.length : Int) - 1) (st := st)
    rw [decide_eq_true h0, decide_eq_true (show j ≤ (p.length : Int) - 1 by omega)] at this
    exact this
  simp [startR, evSs, evS, evE, evEs, evTg, Res.bind, Res.sr, ok1, setI, Kst.d, dr, f_Road_tell, h, lk_places, e1, e2, e3, sub_int, hw]
theorem get_set {o : O} (h : st[n]? = some o) {o' : O} : (st.set n o')[n]? = some o' := List.getElem?_set_self (List.getElem?_eq_some_iff.mp h).1
theorem nf_road {R : D} {w u : List D} (h1 : nf R = true) (h2 : nfs w = true) (h3 : nfs u = true) : nfO (roadO R w u) = true := by
  simp only [roadO, nfO, rf3, List.all_cons, List.all_nil, nf, h1, h2, h3, Bool.and_self]
theorem tell_road {u : List D} {j v : Int} (hm : m = 2 ∨ m = 3) (hp : p.length = m) (hr : r.Ok m) (hF : 27 < F) (hs : nfH st = true) (h : st[n]? = some (roadO r.d (rowsD (rs ++ [p])) u)) (hl : rs.length < 1000) (h0 : 0 ≤ j) (h1 : j < m) (hv : 1 ≤ v ∧ v ≤ 1000000) :
    CC F (k + 7) 114 [.ref n, .int j, .int v] st = .ok (.bl (!eqD (low (r.val (p.set j.toNat v)) r.bot) (low (r.val p) r.bot))) (st.set n (roadO r.d (rowsD (rs ++ [p] ++ [p.set j.toNat v])) [])) := by
  rw [call_eq (f := f_Road_tell) rfl]
  have hp2 : p.length = 2 ∨ p.length = 3 := by rw [hp]; exact hm
  obtain ⟨a, b, s1, s2, s3, s4⟩ := re_place (v := v) hp2 h0 (by omega)
  have e1 : CC F (k + 6) 112 [.ref n] st = .ok (.tup (dts p)) st := places_road (k := k + 5) h (by omega)
  have e2 : bltV .len [.tup (dts p)] st = some (.int p.length) := by show some (D.int ((dts p).length : Int)) = _; rw [dts_len]
  have e3 : CC F (k + 6) 2 [.int j, .int 0, .int ((p.length : Int) - 1)] st = .ok (.bl true) st := by
    have := is_whole_eq (F := F) (n := k + 5) (v := j) (lo := 0) (hi := (p.length : Int) - 1) (st := st)
    rw [decide_eq_true h0, decide_eq_true (show j ≤ (p.length : Int) - 1 by omega)] at this
    exact this
  have e4 : CC F (k + 6) 2 [.int v, .int 1, .int 1000000] st = .ok (.bl true) st := by
    have := is_whole_eq (F := F) (n := k + 5) (v := v) (lo := 1) (hi := 1000000) (st := st)
    rw [decide_eq_true hv.1, decide_eq_true hv.2] at this
    exact this
  have e5 : CC F (k + 6) 113 [.ref n] st = .ok (low (r.val p) r.bot) st := meeting_road hm hp hr hF hs h (by omega)
  have e6 : binV .add (.lst (rowsD (rs ++ [p]))) (.lst [.tup (dts (p.set j.toNat v))]) = some (.lst (rowsD (rs ++ [p] ++ [p.set j.toNat v]))) := by
    rw [add_lst (by rw [rowsD_len, List.length_append]; simp; omega) (by simp), rowsD_app (rs ++ [p])]
    rfl
  have h2 := get_set h (o' := roadO r.d (rowsD (rs ++ [p] ++ [p.set j.toNat v])) u)
  have h3 : (st.set n (roadO r.d (rowsD (rs ++ [p] ++ [p.set j.toNat v])) u)).set n (roadO r.d (rowsD (rs ++ [p] ++ [p.set j.toNat v])) []) = st.set n (roadO r.d (rowsD (rs ++ [p] ++ [p.set j.toNat v])) []) := List.set_set ..
  have h4 := get_set h (o' := roadO r.d (rowsD (rs ++ [p] ++ [p.set j.toNat v])) [])
  have hs' : nfH (st.set n (roadO r.d (rowsD (rs ++ [p] ++ [p.set j.toNat v])) [])) = true := nfH_set hs (nf_road (nf_d r) (nfs_rows _) rfl)
  have e7 : CC F (k + 6) 113 [.ref n] (st.set n (roadO r.d (rowsD (rs ++ [p] ++ [p.set j.toNat v])) [])) = .ok (low (r.val (p.set j.toNat v)) r.bot) (st.set n (roadO r.d (rowsD (rs ++ [p] ++ [p.set j.toNat v])) [])) := meeting_road hm (by rw [List.length_set]; exact hp) hr hF hs' h4 (by rw [List.length_append]; simp; omega)
  have e8 : ∀ x y x' y' : Int, cmpV .ne (low x y) (low x' y') = some (!eqD (low x y) (low x' y')) := fun x y x' y' => rfl
  have hl1 : lenOk [D.tup (dts (p.set j.toNat v))] = true := rfl
  refine run_fin (st' := st.set n (roadO r.d (rowsD (rs ++ [p] ++ [p.set j.toNat v])) [])) (d := .bl (!eqD (low (r.val (p.set j.toNat v)) r.bot) (low (r.val p) r.bot))) rfl ?_ (fin_len (by rw [List.length_set]))
  generalize hq : rowsD (rs ++ [p] ++ [p.set j.toNat v]) = w at *
  generalize hq0 : rowsD (rs ++ [p]) = w0 at *
  simp [startR, evSs, evS, evE, evEs, evL, evO, evTg, Res.bind, Res.sr, ok1, setI, Kst.d, dr_tup, dr_int, dr_lst, f_Road_tell, h, lk_places, lk_meeting, lk_rows, e1, e2, e3, e4, e5, sub_int, add_int, s1, s2, s3, s4, hl1, e6, pt_rows, pt_und, rf3_len, h2, h3, h4, e7, dr_low, e8, lenOk_nil, rf3_lt]
end
end U

namespace U
open PySem Rf
theorem run_fin_nx {C : Calls} {F : Nat} {f : Fn} {as : List D} {st st' : Hs} {ρ : Rho} {r : Res D} (hl : as.length = f.pars) (h : evSs C F f.body (startR f as) st = .next ρ st') (hf : fin f.clean st.length .non st' = r) : runFn C F f as st = r := by
  unfold runFn
  rw [if_pos hl, h]
  exact hf
section
variable {F k n m : Nat} {st : Hs} {r : Ru} {rs us : List (List Int)} {p q : List Int}
theorem len_rows {R : List (List Int)} {st : Hs} : bltV .len [.lst (rowsD R)] st = some (.int R.length) := by
  show some (D.int ((rowsD R).length : Int)) = _
  rw [rowsD_len]
theorem undo_road {R : D} (hR : nf R = true) (h : st[n]? = some (roadO R (rowsD (rs ++ [q] ++ [p])) (rowsD us))) (hl : rs.length < 999) (hu : us.length ≤ 1000) :
    CC F (k + 2) 115 [.ref n] st = .ok (.tup (dts q)) (st.set n (roadO R (rowsD (rs ++ [q])) (rowsD (us ++ [p])))) := by
  rw [call_eq (f := f_Road_undo) rfl]
  have e1 := len_rows (R := rs ++ [q] ++ [p]) (st := st)
  have hl' : (((rs ++ [q] ++ [p]).length : Nat) : Int) = (rs.length : Int) + 2 := by simp
  have e2 : ((((rs ++ [q] ++ [p]).length : Nat) : Int) == 1) = false := by rw [hl']; simp; omega
  have e3 := ix_last (st := st) (rs := rs ++ [q]) (p := p) (by simp; omega)
  have e4 : binV .add (.lst (rowsD us)) (.lst [.tup (dts p)]) = some (.lst (rowsD (us ++ [p]))) := by
    rw [add_lst (by rw [rowsD_len]; exact hu) (by simp), rowsD_app]
    rfl
  have e5 := sl_front (rs := rs ++ [q]) (p := p)
  have h2 := get_set h (o' := roadO R (rowsD (rs ++ [q] ++ [p])) (rowsD (us ++ [p])))
  have h3 : (st.set n (roadO R (rowsD (rs ++ [q] ++ [p])) (rowsD (us ++ [p])))).set n (roadO R (rowsD (rs ++ [q])) (rowsD (us ++ [p]))) = st.set n (roadO R (rowsD (rs ++ [q])) (rowsD (us ++ [p]))) := List.set_set ..
  have h4 := get_set h (o' := roadO R (rowsD (rs ++ [q])) (rowsD (us ++ [p])))
  have e6 : CC F (k + 1) 112 [.ref n] (st.set n (roadO R (rowsD (rs ++ [q])) (rowsD (us ++ [p])))) = .ok (.tup (dts q)) (st.set n (roadO R (rowsD (rs ++ [q])) (rowsD (us ++ [p])))) := places_road h4 (by omega)
  refine run_fin (st' := st.set n (roadO R (rowsD (rs ++ [q])) (rowsD (us ++ [p])))) (d := .tup (dts q)) rfl ?_ (fin_len (by rw [List.length_set]))
  generalize rowsD (rs ++ [q] ++ [p]) = w at *
  generalize rowsD (rs ++ [q]) = w1 at *
  generalize rowsD (us ++ [p]) = u1 at *
  generalize (((rs ++ [q] ++ [p]).length : Nat) : Int) = L at *
  simp [startR, evSs, evS, evE, evEs, evL, evO, evTg, Res.bind, Res.sr, ok1, ixK, setI, Kst.d, dr_tup, dr_int, dr_lst, f_Road_undo, h, lk_places, lk_rows, lk_und, e1, cmp_eq_int, e2, e3, e4, e5, e6, pt_rows, pt_und, rf3_lt, h2, h3, h4, lenOk_one]
theorem undo_none {R : D} {u : List D} (h : st[n]? = some (roadO R (rowsD [p]) u)) : CC F (k + 1) 115 [.ref n] st = .exc "NothingToUndo" st := by
  rw [call_eq (f := f_Road_undo) rfl]
  refine run_ex rfl ?_
  have e1 : bltV .len [.lst (rowsD [p])] st = some (.int 1) := rfl
  simp [startR, evSs, evS, evE, evEs, Res.bind, Res.sr, ok1, Kst.d, dr_int, f_Road_undo, h, lk_rows, e1, cmp_eq_int]
theorem sh_rows (n : Nat) : ∀ rs : List (List Int), shDs (n + 1) (rowsD rs) = true
  | [] => rfl
  | p :: rs => by
    simp only [rowsD, List.map_cons, shDs, shD, sh_dts, Bool.true_and]
    exact sh_rows n rs
theorem und_nil {R : List (List Int)} : cmpV .eq (.lst (rowsD R)) (.lst []) = some R.isEmpty := by
  show (if (shDs 59 (rowsD R) && true) = true then some (eqDs (rowsD R) []) else none) = _
  rw [sh_rows 58]
  cases R <;> rfl
theorem und_ne {R : List (List Int)} : cmpV .ne (.lst (rowsD R)) (.lst []) = some (!R.isEmpty) := by
  show (if (shDs 59 (rowsD R) && true) = true then some (!eqDs (rowsD R) []) else none) = _
  rw [sh_rows 58]
  cases R <;> rfl
theorem redo_none {R : D} {w : List D} (h : st[n]? = some (roadO R w (rowsD []))) : CC F (k + 1) 116 [.ref n] st = .exc "NothingToUndo" st := by
  rw [call_eq (f := f_Road_redo) rfl]
  refine run_ex rfl ?_
  have e1 := und_nil (R := [])
  simp [startR, evSs, evS, evE, evEs, evL, Res.bind, Res.sr, ok1, Kst.d, dr_lst, f_Road_redo, h, lk_und, e1, lenOk_nil]
theorem redo_road {R : D} (h : st[n]? = some (roadO R (rowsD rs) (rowsD (us ++ [p])))) (hl : rs.length < 999) (hu : us.length ≤ 1000) :
    CC F (k + 2) 116 [.ref n] st = .ok (.tup (dts p)) (st.set n (roadO R (rowsD (rs ++ [p])) (rowsD us))) := by
  rw [call_eq (f := f_Road_redo) rfl]
  have e1 := und_nil (R := us ++ [p])
  have e2 : (us ++ [p]).isEmpty = false := by simp
  rw [e2] at e1
  have e3 := ix_last (st := st) (rs := us) (p := p) hu
  have e4 : binV .add (.lst (rowsD rs)) (.lst [.tup (dts p)]) = some (.lst (rowsD (rs ++ [p]))) := by
    rw [add_lst (by rw [rowsD_len]; omega) (by simp), rowsD_app]
    rfl
  have e5 := sl_front (rs := us) (p := p)
  have h2 := get_set h (o' := roadO R (rowsD (rs ++ [p])) (rowsD (us ++ [p])))
  have h3 : (st.set n (roadO R (rowsD (rs ++ [p])) (rowsD (us ++ [p])))).set n (roadO R (rowsD (rs ++ [p])) (rowsD us)) = st.set n (roadO R (rowsD (rs ++ [p])) (rowsD us)) := List.set_set ..
  have h4 := get_set h (o' := roadO R (rowsD (rs ++ [p])) (rowsD us))
  have e6 : CC F (k + 1) 112 [.ref n] (st.set n (roadO R (rowsD (rs ++ [p])) (rowsD us))) = .ok (.tup (dts p)) (st.set n (roadO R (rowsD (rs ++ [p])) (rowsD us))) := places_road h4 (by omega)
  refine run_fin (st' := st.set n (roadO R (rowsD (rs ++ [p])) (rowsD us))) (d := .tup (dts p)) rfl ?_ (fin_len (by rw [List.length_set]))
  generalize rowsD (rs ++ [p]) = w at *
  generalize rowsD (us ++ [p]) = u1 at *
  simp [startR, evSs, evS, evE, evEs, evL, evO, evTg, Res.bind, Res.sr, ok1, ixK, setI, Kst.d, dr_tup, dr_int, dr_lst, f_Road_redo, h, lk_places, lk_rows, lk_und, e1, e3, e4, e5, e6, pt_rows, pt_und, rf3_lt, h2, h3, h4, lenOk_one, lenOk_nil]
/-- == -/
theorem eq_road {n' : Nat} {R R' : D} {w w' u u' : List D} (h : st[n]? = some (roadO R w u)) (h' : st[n']? = some (roadO R' w' u')) (h1 : shD 60 R = true) (h2 : shD 60 R' = true) (h3 : shDs 59 w = true) (h4 : shDs 59 w' = true) (hr : dr st R = R) (hr' : dr st R' = R') :
    CC F (k + 1) 118 [.ref n, .ref n'] st = .ok (.bl (eqD R R' && eqDs w w')) st := by
  rw [call_eq (f := f_Road__eq_) rfl]
  refine run_of rfl ?_
  have e1 : isCV "Road" st (.ref n') = some true := by
    show (if insOf st (.ref n') = some ("Road" : Str) then some true else none) = _
    have : insOf st (.ref n') = some ("Road" : Str) := by
      show (match st[n']? with | some (.ins c _) => some c | _ => none) = _
      rw [h']
    rw [if_pos this]
  have e2 : cmpV .eq R R' = some (eqD R R') := by
    show (if (shD 60 R && shD 60 R') = true then some (eqD R R') else none) = _
    rw [h1, h2]
    rfl
  have e3 : cmpV .eq (.lst w) (.lst w') = some (eqDs w w') := by
    show (if (shDs 59 w && shDs 59 w') = true then some (eqDs w w') else none) = _
    rw [h3, h4]
    rfl
  cases hq : eqD R R' <;> simp [startR, evSs, evS, evE, evB, Res.bind, Res.sr, ok1, f_Road__eq_, h, h', lk_rule, lk_rows, e1, e2, e3, hq, hr, hr', dr_lst]
theorem eq_int {R : D} {i : Int} {w u : List D} (h : st[n]? = some (roadO R w u)) : CC F (k + 1) 118 [.ref n, .int i] st = .ok (.bl false) st := by
  rw [call_eq (f := f_Road__eq_) rfl]
  refine run_of rfl ?_
  have e1 : isCV "Road" st (.int i) = some false := rfl
  simp [startR, evSs, evS, evE, evB, Res.bind, Res.sr, ok1, f_Road__eq_, h, e1]
/-- a road made -/
theorem init_road (hm : m = 2 ∨ m = 3) (hp : p.length = m) (hr : r.Ok m) (hp' : PlOk p) (hs : nfH st = true) :
    CC F (k + 5) 111 [.ref st.length, .int m, r.d, .tup (dts p)] (st ++ [.ins "Road" []]) = .ok .non (st ++ [roadO r.d (rowsD [p]) (rowsD [])]) := by
  rw [call_eq (f := f_Road__init_) rfl]
  have hs' : nfH (st ++ [.ins "Road" []]) = true := nfH_app hs rfl
  have e1 : CC F (k + 4) 3 [.int m] (st ++ [.ins "Road" []]) = .ok .non (st ++ [.ins "Road" []]) := need_people_eq (n := k + 2) (by omega) (by omega)
  have e2 : CC F (k + 4) 8 [.int m, r.d] (st ++ [.ins "Road" []]) = .ok .non (st ++ [.ins "Road" []]) := need_ruleH hm hr hs'
  have e3 : CC F (k + 4) 10 [.int m, .tup (dts p)] (st ++ [.ins "Road" []]) = .ok .non (st ++ [.ins "Road" []]) := need_placesH (n := k + 1) hm hp hp'
  have g := fun o : O => top_get (st := st) (o := o)
  have g2 := fun o o' : O => top_set (st := st) (o := o) (o' := o')
  have p1 : ∀ d, putD "rule" d [] = [(("rule" : Str), d)] := fun d => rfl
  have p2 : ∀ d e, putD "rows" e [(("rule" : Str), d)] = [(("rule" : Str), d), ("rows", e)] := fun d e => by kernel_rfl
  have p3 : ∀ d e u, putD "undone" u [(("rule" : Str), d), ("rows", e)] = [(("rule" : Str), d), ("rows", e), ("undone", u)] := fun d e u => by kernel_rfl
  have hl : fin false (st ++ [O.ins "Road" []]).length .non (st ++ [roadO r.d (rowsD [p]) (rowsD [])]) = .ok .non (st ++ [roadO r.d (rowsD [p]) (rowsD [])]) := fin_len (by rw [List.length_append, List.length_append]; rfl)
  refine run_fin_nx (ρ := [some (.ref st.length), some (.int m), some r.d, some (.tup (dts p))]) rfl ?_ hl
  simp [startR, evSs, evS, evE, evEs, evL, Res.bind, Res.sr, f_Road__init_, e1, e2, e3, lenOk_one, lenOk_nil, p1, p2, p3]
  rfl
theorem init_places (hm : m = 2 ∨ m = 3) (hr : r.Ok m) (hs : nfH st = true) : CC F (k + 5) 111 [.ref st.length, .int m, r.d, .non] (st ++ [.ins "Road" []]) = .exc "InvalidPlaces" (st ++ [.ins "Road" []]) := by
  rw [call_eq (f := f_Road__init_) rfl]
  refine run_ex rfl ?_
  have hs' : nfH (st ++ [.ins "Road" []]) = true := nfH_app hs rfl
  have e1 : CC F (k + 4) 3 [.int m] (st ++ [.ins "Road" []]) = .ok .non (st ++ [.ins "Road" []]) := need_people_eq (n := k + 2) (by omega) (by omega)
  have e2 : CC F (k + 4) 8 [.int m, r.d] (st ++ [.ins "Road" []]) = .ok .non (st ++ [.ins "Road" []]) := need_ruleH hm hr hs'
  have e3 : ∀ st : Hs, CC F (k + 4) 10 [.int m, .non] st = .exc "InvalidPlaces" st := fun st => by
    rw [call_eq (f := f_need_places) rfl]
    refine run_ex rfl ?_
    have : CC F (k + 3) 9 [.non, .int m] st = .ok (.bl false) st := by
      rw [call_eq (f := f_is_places_for) rfl]
      refine run_of rfl ?_
      (simp [startR, evSs, evS, evE, evEs, evB, evO, evL, evIt, evTg, evTgs, evC, compS, forS, Res.bind, Res.sr, ok1, ixV, ixK, items, seqOf, dr, lenOk, ixNat, bltV, allInt, allBl, isiV, setI, wipeR, itemAt, Kst.d, bigN, Tgs.len, rngL, cmp_eq_int, cmp_ne_int, cmp_lt_int, cmp_le_int, cmp_gt_int, cmp_ge_int, add_int, sub_int, f_is_places_for])
    (simp [startR, evSs, evS, evE, evEs, evB, evO, evL, evIt, evTg, evTgs, evC, compS, forS, Res.bind, Res.sr, ok1, ixV, ixK, items, seqOf, dr, lenOk, ixNat, bltV, allInt, allBl, isiV, setI, wipeR, itemAt, Kst.d, bigN, Tgs.len, rngL, cmp_eq_int, cmp_ne_int, cmp_lt_int, cmp_le_int, cmp_gt_int, cmp_ge_int, add_int, sub_int, f_need_places, this])
  simp [startR, evSs, evS, evE, evEs, Res.bind, Res.sr, Kst.d, f_Road__init_, e1, e2, e3]
theorem init_rule {P : D} (hm : m = 2 ∨ m = 3) : CC F (k + 5) 111 [.ref st.length, .int m, .str "end", P] (st ++ [.ins "Road" []]) = .exc "InvalidRule" (st ++ [.ins "Road" []]) := by
  rw [call_eq (f := f_Road__init_) rfl]
  refine run_ex rfl ?_
  have e1 : CC F (k + 4) 3 [.int m] (st ++ [.ins "Road" []]) = .ok .non (st ++ [.ins "Road" []]) := need_people_eq (n := k + 2) (by omega) (by omega)
  have e2 : ∀ st : Hs, CC F (k + 4) 8 [.int m, .str "end"] st = .exc "InvalidRule" st := fun st => by
    rw [call_eq (f := f_need_rule) rfl]
    refine run_ex rfl ?_
    have : CC F (k + 3) 7 [.str "end", .int m] st = .ok (.bl false) st := by
      rw [call_eq (f := f_is_rule_for) rfl]
      refine run_of rfl ?_
      (simp [startR, evSs, evS, evE, evEs, evB, evO, evL, evIt, evTg, evTgs, evC, compS, forS, Res.bind, Res.sr, ok1, ixV, ixK, items, seqOf, dr, lenOk, ixNat, bltV, allInt, allBl, isiV, setI, wipeR, itemAt, Kst.d, bigN, Tgs.len, rngL, cmp_eq_int, cmp_ne_int, cmp_lt_int, cmp_le_int, cmp_gt_int, cmp_ge_int, add_int, sub_int, f_is_rule_for])
    (simp [startR, evSs, evS, evE, evEs, evB, evO, evL, evIt, evTg, evTgs, evC, compS, forS, Res.bind, Res.sr, ok1, ixV, ixK, items, seqOf, dr, lenOk, ixNat, bltV, allInt, allBl, isiV, setI, wipeR, itemAt, Kst.d, bigN, Tgs.len, rngL, cmp_eq_int, cmp_ne_int, cmp_lt_int, cmp_le_int, cmp_gt_int, cmp_ge_int, add_int, sub_int, f_need_rule, this])
  simp [startR, evSs, evS, evE, evEs, Res.bind, Res.sr, Kst.d, f_Road__init_, e1, e2]
end
end U

namespace U
open PySem Rf
theorem fin_bl {st X : Hs} {b : Bool} (h : nfH st = true) : fin true st.length (.bl b) (st ++ X) = .ok (.bl b) st := by
  unfold fin
  by_cases hX : X = []
  · subst hX
    rw [List.append_nil, if_pos (Nat.ble_eq_true_of_le (Nat.le_refl _))]
  · have : Nat.ble (st ++ X).length st.length = false := by
      cases hb : Nat.ble (st ++ X).length st.length with
      | false => rfl
      | true =>
        have := Nat.le_of_ble_eq_true hb
        rw [List.length_append] at this
        have : X.length = 0 := by omega
        exact absurd (List.eq_nil_of_length_eq_zero this) hX
    rw [this, if_neg (by decide), if_pos rfl]
    show (if (((st ++ X).take st.length).all (belowO st.length)) = true then Res.ok (D.bl b) ((st ++ X).take st.length) else .stuck) = _
    rw [List.take_left, if_pos (show st.all (belowO st.length) = true from nfH_shut h)]
abbrev errD (x : Str) : D := .tup [.str "error", .str x]
theorem tb_places : toldB "InvalidPlaces" = true := by kernel_rfl
theorem tb_people : toldB "InvalidPeople" = true := by kernel_rfl
theorem tb_rule : toldB "InvalidRule" = true := by kernel_rfl
theorem tb_undo : toldB "NothingToUndo" = true := by kernel_rfl
theorem ne_places : cmpV .ne (.tup [.str "error", .str "InvalidPlaces"]) (.tup [.str "error", .str "InvalidPlaces"]) = some false := by kernel_rfl
theorem ne_people : cmpV .ne (.tup [.str "error", .str "InvalidPeople"]) (.tup [.str "error", .str "InvalidPeople"]) = some false := by kernel_rfl
theorem ne_undo : cmpV .ne (.tup [.str "error", .str "NothingToUndo"]) (.tup [.str "error", .str "NothingToUndo"]) = some false := by kernel_rfl
theorem eq_rule : cmpV .eq (.tup [.str "error", .str "InvalidRule"]) (.tup [.str "error", .str "InvalidRule"]) = some true := by kernel_rfl
theorem wh_non {F k : Nat} {st : Hs} {a b : Int} : CC F (k + 1) 2 [.non, .int a, .int b] st = .ok (.bl false) st := by
  rw [call_eq (f := f_is_whole) rfl]
  refine run_of rfl ?_
  (simp [startR, evSs, evS, evE, evEs, evB, evO, evL, evIt, evTg, evTgs, evC, compS, forS, Res.bind, Res.sr, ok1, ixV, ixK, items, seqOf, dr, lenOk, ixNat, bltV, allInt, allBl, isiV, setI, wipeR, itemAt, Kst.d, bigN, Tgs.len, rngL, cmp_eq_int, cmp_ne_int, cmp_lt_int, cmp_le_int, cmp_gt_int, cmp_ge_int, add_int, sub_int, f_is_whole])
theorem wh_bl {F k : Nat} {st : Hs} {a b : Int} {c : Bool} : CC F (k + 1) 2 [.bl c, .int a, .int b] st = .ok (.bl false) st := by
  rw [call_eq (f := f_is_whole) rfl]
  refine run_of rfl ?_
  (simp [startR, evSs, evS, evE, evEs, evB, evO, evL, evIt, evTg, evTgs, evC, compS, forS, Res.bind, Res.sr, ok1, ixV, ixK, items, seqOf, dr, lenOk, ixNat, bltV, allInt, allBl, isiV, setI, wipeR, itemAt, Kst.d, bigN, Tgs.len, rngL, cmp_eq_int, cmp_ne_int, cmp_lt_int, cmp_le_int, cmp_gt_int, cmp_ge_int, add_int, sub_int, f_is_whole])
theorem wh_str {F k : Nat} {st : Hs} {a b : Int} {c : Str} : CC F (k + 1) 2 [.str c, .int a, .int b] st = .ok (.bl false) st := by
  rw [call_eq (f := f_is_whole) rfl]
  refine run_of rfl ?_
  (simp [startR, evSs, evS, evE, evEs, evB, evO, evL, evIt, evTg, evTgs, evC, compS, forS, Res.bind, Res.sr, ok1, ixV, ixK, items, seqOf, dr, lenOk, ixNat, bltV, allInt, allBl, isiV, setI, wipeR, itemAt, Kst.d, bigN, Tgs.len, rngL, cmp_eq_int, cmp_ne_int, cmp_lt_int, cmp_le_int, cmp_gt_int, cmp_ge_int, add_int, sub_int, f_is_whole])
theorem wh_tup {F k : Nat} {st : Hs} {a b : Int} {c : List D} : CC F (k + 1) 2 [.tup c, .int a, .int b] st = .ok (.bl false) st := by
  rw [call_eq (f := f_is_whole) rfl]
  refine run_of rfl ?_
  (simp [startR, evSs, evS, evE, evEs, evB, evO, evL, evIt, evTg, evTgs, evC, compS, forS, Res.bind, Res.sr, ok1, ixV, ixK, items, seqOf, dr, lenOk, ixNat, bltV, allInt, allBl, isiV, setI, wipeR, itemAt, Kst.d, bigN, Tgs.len, rngL, cmp_eq_int, cmp_ne_int, cmp_lt_int, cmp_le_int, cmp_gt_int, cmp_ge_int, add_int, sub_int, f_is_whole])
theorem wh_int {F k : Nat} {st : Hs} {a b c : Int} (h : ¬ (a ≤ c ∧ c ≤ b)) : CC F (k + 1) 2 [.int c, .int a, .int b] st = .ok (.bl false) st := by
  have := is_whole_eq (F := F) (n := k) (v := c) (lo := a) (hi := b) (st := st)
  rw [show (decide (a ≤ c) && decide (c ≤ b)) = false by simp; omega] at this
  exact this
mutual
theorem eqD_refl : ∀ (d : D) (n : Nat), shD n d = true → eqD d d = true
  | .non, _, _ => rfl
  | .bl b, _, _ => by simp [eqD]
  | .int i, _, _ => by simp [eqD]
  | .str x, _, _ => by simp [eqD]
  | .tup ds, 0, h => by simp [shD] at h
  | .tup ds, n + 1, h => by simp only [eqD]; exact eqDs_refl ds n (by simpa [shD] using h)
  | .lst ds, 0, h => by simp [shD] at h
  | .lst ds, n + 1, h => by simp only [eqD]; exact eqDs_refl ds n (by simpa [shD] using h)
  | .kl ds, 0, h => by simp [shD] at h
  | .kl ds, n + 1, h => by simp only [eqD]; exact eqDs_refl ds n (by simpa [shD] using h)
  | .ref _, _, h => by simp [shD] at h
  | .exc _, _, h => by simp [shD] at h
theorem eqDs_refl : ∀ (ds : List D) (n : Nat), shDs n ds = true → eqDs ds ds = true
  | [], _, _ => rfl
  | d :: ds, n, h => by
    simp only [shDs, Bool.and_eq_true] at h
    simp only [eqDs, eqD_refl d n h.1, eqDs_refl ds n h.2, Bool.and_self]
end
theorem eqDs_len : ∀ (xs ys : List D), xs.length ≠ ys.length → eqDs xs ys = false
  | [], [], h => absurd rfl h
  | [], _ :: _, _ => rfl
  | _ :: _, [], _ => rfl
  | x :: xs, y :: ys, h => by
    simp only [eqDs, eqDs_len xs ys (fun e => h (by simp [e])), Bool.and_false]
theorem sh_sets (n : Nat) (X : List (List Int)) : shD (n + 2) (setsD X) = true := by
  show shDs (n + 1) (rowsD X) = true
  exact sh_rows n X
theorem sh_d (r : Ru) : shD 60 r.d = true := by
  cases r with
  | ranks s => simp only [Ru.d, shD, shDs, sh_dts, Bool.and_true]; kernel_rfl
  | people s => simp only [Ru.d, shD, shDs, sh_dts, Bool.and_true]; kernel_rfl
  | near => kernel_rfl
  | sets X => simp only [Ru.d, shD, shDs, sh_sets 57, Bool.and_true]; kernel_rfl
theorem eights {m : Nat} {r : Ru} (hm : m = 2 ∨ m = 3) (h : r.Dr m) : eqD r.d (.tup [.str "people", .tup (dts (List.replicate m 8))]) = false := by
  cases r with
  | ranks s =>
    have : (("ranks" : Str) == ("people" : Str)) = false := by kernel_rfl
    simp [Ru.d, eqD, eqDs, this]
  | near =>
    have : (("end" : Str) == ("people" : Str)) = false := by kernel_rfl
    simp [Ru.d, eqD, eqDs, this]
  | sets X =>
    have : (("sets" : Str) == ("people" : Str)) = false := by kernel_rfl
    simp [Ru.d, eqD, eqDs, this]
  | people s =>
    have h2 : eqDs (dts s) (dts (List.replicate m 8)) = false := by
      obtain ⟨hl, hx, _⟩ := h
      match s, hl with
      | [], hl => simp at hl; omega
      | x :: s, hl =>
        have := hx x List.mem_cons_self
        rcases hm with rfl | rfl
        all_goals
          simp only [dts, List.map_cons, List.replicate, eqDs, eqD]
          rw [show (x == 8) = false by simp; omega]
          rfl
    simp [Ru.d, eqD, eqDs, h2]
theorem is_lenO {n : Nat} {st : Hs} {R : D} {w u : List D} (h : st[n]? = some (roadO R w u)) : insOf st (.ref n) = some ("Road" : Str) := by
  show (match st[n]? with | some (.ins c _) => some c | _ => none) = _
  rw [h]
def nthS : Nat → Ss → S
  | 0, .cons s _ => s
  | n + 1, .cons _ ss => nthS n ss
  | _, .nil => .raise ""
section
variable {F n m : Nat} {C : Calls} {st : Hs} {R P W : D} {w u : List D} {x y : Option D}
theorem end_1 (h : st[n]? = some (roadO R w u)) (t1 : C 114 [.ref n, .int 0, .non] st = .exc "InvalidPlaces" st) (t2 : C 114 [.ref n, .int 0, .int 0] st = .exc "InvalidPlaces" st) (t3 : C 114 [.ref n, .int 0, .int (-1)] st = .exc "InvalidPlaces" st) (t4 : C 114 [.ref n, .int 0, .int 1000001] st = .exc "InvalidPlaces" st)
    (t5 : C 114 [.ref n, .int 0, .bl true] st = .exc "InvalidPlaces" st) (t6 : C 114 [.ref n, .int 0, .str "1"] st = .exc "InvalidPlaces" st) (t7 : C 114 [.ref n, .int 0, .tup [.int 1]] st = .exc "InvalidPlaces" st) :
    evS C F (nthS 0 f__law_end.body) [some (.ref n), some (.int m), some R, some P, some W, none, none] st = .next [some (.ref n), some (.int m), some R, some P, some W, some (.tup [.int 1]), none] st := by
  have ed : ∀ (ρ : Rho) (st : Hs), evL C F (.disp (.cons (.k .non) (.cons (.k (.int 0)) (.cons (.neg (.k (.int 1))) (.cons (.bin .add (.bin .pow (.k (.int 10)) (.k (.int 6))) (.k (.int 1))) (.cons (.k (.bl true)) (.cons (.k (.str "1")) (.cons (.tup (.cons (.k (.int 1)) .nil)) .nil)))))))) ρ st = .ok [.non, .int 0, .int (-1), .int 1000001, .bl true, .str "1", .tup [.int 1]] st := fun ρ st => by kernel_rfl
  unfold f__law_end nthS
  simp [evS, evE, evEs, evSs, evIt, evTg, forS, itemAt, items, Res.bind, Res.sr, ok1, setI, Kst.d, ed, dr_lst, dr_tup, h, lk_tell, t1, t2, t3, t4, t5, t6, t7, tb_places, ne_places]
theorem end_2 {x : Option D} (h : st[n]? = some (roadO R w u)) (u1 : C 114 [.ref n, .int (-1), .int 1] st = .exc "InvalidPeople" st) (u2 : C 114 [.ref n, .int m, .int 1] st = .exc "InvalidPeople" st) (u3 : C 114 [.ref n, .non, .int 1] st = .exc "InvalidPeople" st) (u4 : C 114 [.ref n, .bl true, .int 1] st = .exc "InvalidPeople" st) (u5 : C 114 [.ref n, .str "0", .int 1] st = .exc "InvalidPeople" st) :
    evS C F (nthS 1 f__law_end.body) [some (.ref n), some (.int m), some R, some P, some W, x, none] st = .next [some (.ref n), some (.int m), some R, some P, some W, some (.str "0"), none] st := by
  have hl5 : lenOk [D.int (-1), .int m, .non, .bl true, .str "0"] = true := rfl
  unfold f__law_end nthS
  simp [nthS, evS, evE, evEs, evSs, evL, evIt, evTg, forS, itemAt, items, Res.bind, Res.sr, ok1, setI, Kst.d, hl5, dr_lst, dr_tup, h, lk_tell, u1, u2, u3, u4, u5, tb_people, ne_people]
theorem end_3 {ρ : Rho} {q : List D} {l : Nat} {v : List D} (h : st[n]? = some (roadO R w u)) (c1 : C 112 [.ref n] st = .ok (.tup q) st) (c2 : ixV st (.lst v) (.int (-1)) = some (.tup q)) (c3 : cmpV .ne (.tup q) (.tup q) = some false) (c4 : C 117 [.ref n] st = .ok (.int l) st) (c5 : bltV .len [.lst v] st = some (.int ((l : Int) + 1))) (hl : l < 1000000) (c7 : C 118 [.ref n, .int 5] st = .ok (.bl false) st)
    (r0 : ρ[0]? = some (some (.ref n))) (r4 : ρ[4]? = some (some (.lst v))) : evS C F (nthS 2 f__law_end.body) ρ st = .next ρ st := by
  have c6 := is_lenO h
  unfold f__law_end nthS
  simp [nthS, evS, evE, evEs, evSs, evB, Res.bind, Res.sr, ok1, ixK, Kst.d, dr_lst, dr_tup, dr_int, h, lk_places, r0, r4, c1, c2, c3, c4, c5, c6, c7, sub_int, cmp_ne_int, eqOk, show ((l : Int) + 1 - 1) = l by omega, show (l : Int) < 1000000 by omega, show (0 : Int) ≤ l by omega]
theorem end_4 {ρ : Rho} {M : D} {st' : Hs} (i1 : C 111 [.ref st.length, M, R, P] (st ++ [.ins "Road" []]) = .ok .non st') (r1 : ρ[1]? = some (some M)) (r2 : ρ[2]? = some (some R)) (r3 : ρ[3]? = some (some P)) : evS C F (nthS 3 f__law_end.body) ρ st = .next (ρ.set 6 (some (.ref st.length))) st' := by
  unfold f__law_end nthS
  simp [nthS, evS, evE, evEs, evTg, Res.bind, Res.sr, setI, r1, r2, r3, i1]
theorem end_5 {ρ : Rho} {st' : Hs} {a l : Nat} {b : Bool} {v : List D} {T : D} (q2 : insOf st (.ref n) = some ("Road" : Str)) (q3 : eqOk "Road" st (.ref a) = true) (q1 : C 118 [.ref n, .ref a] st = .ok (.bl b) st) (c5 : bltV .len [.lst v] st = some (.int l)) (q4 : cmpV .ne (.bl b) (.bl ((l : Int) == 1)) = some false)
    (m8 : binV .mul (.tup [.int 8]) (.int m) = some T) (i2 : C 111 [.ref st.length, .int m, .tup [.str "people", T], P] (st ++ [.ins "Road" []]) = .ok .non st') (q6 : insOf st' (.ref a) = some ("Road" : Str)) (q7 : eqOk "Road" st' (.ref st.length) = true) (q5 : C 118 [.ref a, .ref st.length] st' = .ok (.bl false) st')
    (r0 : ρ[0]? = some (some (.ref n))) (r1 : ρ[1]? = some (some (.int m))) (r3 : ρ[3]? = some (some P)) (r4 : ρ[4]? = some (some (.lst v))) (r6 : ρ[6]? = some (some (.ref a))) : evS C F (nthS 4 f__law_end.body) ρ st = .next ρ st' := by
  unfold f__law_end nthS
  simp [nthS, evS, evE, evEs, evSs, evB, Res.bind, Res.sr, ok1, Kst.d, dr, r0, r1, r3, r4, r6, q1, q2, q3, c5, cmp_eq_int, q4, m8, i2, q5, q6, q7]
theorem end_6 {ρ : Rho} {M : D} {st' : Hs} (i3 : C 111 [.ref st.length, M, R, .non] (st ++ [.ins "Road" []]) = .exc "InvalidPlaces" st') (r1 : ρ[1]? = some (some M)) (r2 : ρ[2]? = some (some R)) : evS C F (nthS 5 f__law_end.body) ρ st = .next ρ st' := by
  unfold f__law_end nthS
  simp [nthS, evS, evE, evEs, evSs, Res.bind, Res.sr, ok1, Kst.d, dr_tup, r1, r2, i3, tb_places, ne_places]
theorem end_7 {ρ : Rho} {M : D} {st' : Hs} (i3 : C 111 [.ref st.length, M, .str "end", P] (st ++ [.ins "Road" []]) = .exc "InvalidRule" st') (r1 : ρ[1]? = some (some M)) (r3 : ρ[3]? = some (some P)) : evS C F (nthS 6 f__law_end.body) ρ st = .ret (.bl true) st' := by
  unfold f__law_end nthS
  simp [nthS, evS, evE, evEs, evSs, Res.bind, Res.sr, ok1, Kst.d, dr_tup, r1, r3, i3, tb_rule, eq_rule]
end
section
variable {F k n m : Nat} {st : Hs} {r : Ru} {rs us tl : List (List Int)} {p f : List Int}
theorem end_ok (hm : m = 2 ∨ m = 3) (hF : 27 < F) (hr : r.Dr m) (hp : p.length = m) (hf : f.length = m) (hf' : PlOk f) (hs : nfH st = true) (h : st[n]? = some (roadO r.d (rowsD (rs ++ [p])) (rowsD us))) (ht : rs ++ [p] = f :: tl) (hl : rs.length ≤ 900) :
    CC F (k + 8) 119 [.ref n, .int m, r.d, .tup (dts f), .lst (rowsD (rs ++ [p]))] st = .ok (.bl true) st := by
  rw [call_eq (f := f__law_end) rfl]
  have ed : ∀ (ρ : Rho) (st : Hs), evL (CC F (k + 7)) F (.disp (.cons (.k .non) (.cons (.k (.int 0)) (.cons (.neg (.k (.int 1))) (.cons (.bin .add (.bin .pow (.k (.int 10)) (.k (.int 6))) (.k (.int 1))) (.cons (.k (.bl true)) (.cons (.k (.str "1")) (.cons (.tup (.cons (.k (.int 1)) .nil)) .nil)))))))) ρ st = .ok [.non, .int 0, .int (-1), .int 1000001, .bl true, .str "1", .tup [.int 1]] st := fun ρ st => by kernel_rfl
  have t1 : CC F (k + 7) 114 [.ref n, .int 0, .non] st = .exc "InvalidPlaces" st := tell_place (k := k + 5) h (by omega) (by decide) (by omega) wh_non
  have t2 : CC F (k + 7) 114 [.ref n, .int 0, .int 0] st = .exc "InvalidPlaces" st := tell_place (k := k + 5) h (by omega) (by decide) (by omega) (wh_int (by decide))
  have t3 : CC F (k + 7) 114 [.ref n, .int 0, .int (-1)] st = .exc "InvalidPlaces" st := tell_place (k := k + 5) h (by omega) (by decide) (by omega) (wh_int (by decide))
  have t4 : CC F (k + 7) 114 [.ref n, .int 0, .int 1000001] st = .exc "InvalidPlaces" st := tell_place (k := k + 5) h (by omega) (by decide) (by omega) (wh_int (by decide))
  have t5 : CC F (k + 7) 114 [.ref n, .int 0, .bl true] st = .exc "InvalidPlaces" st := tell_place (k := k + 5) h (by omega) (by decide) (by omega) wh_bl
  have t6 : CC F (k + 7) 114 [.ref n, .int 0, .str "1"] st = .exc "InvalidPlaces" st := tell_place (k := k + 5) h (by omega) (by decide) (by omega) wh_str
  have t7 : CC F (k + 7) 114 [.ref n, .int 0, .tup [.int 1]] st = .exc "InvalidPlaces" st := tell_place (k := k + 5) h (by omega) (by decide) (by omega) wh_tup
  have u1 : CC F (k + 7) 114 [.ref n, .int (-1), .int 1] st = .exc "InvalidPeople" st := tell_person (k := k + 5) h (by omega) (wh_int (by omega))
  have u2 : CC F (k + 7) 114 [.ref n, .int m, .int 1] st = .exc "InvalidPeople" st := tell_person (k := k + 5) h (by omega) (wh_int (by omega))
  have u3 : CC F (k + 7) 114 [.ref n, .non, .int 1] st = .exc "InvalidPeople" st := tell_person (k := k + 5) h (by omega) wh_non
  have u4 : CC F (k + 7) 114 [.ref n, .bl true, .int 1] st = .exc "InvalidPeople" st := tell_person (k := k + 5) h (by omega) wh_bl
  have u5 : CC F (k + 7) 114 [.ref n, .str "0", .int 1] st = .exc "InvalidPeople" st := tell_person (k := k + 5) h (by omega) wh_str
  have hl5 : lenOk [D.int (-1), .int m, .non, .bl true, .str "0"] = true := rfl
  have c1 : CC F (k + 7) 112 [.ref n] st = .ok (.tup (dts p)) st := places_road (k := k + 6) h (by omega)
  have c2 := ix_last (st := st) (rs := rs) (p := p) (by omega)
  have c3 : cmpV .ne (.tup (dts p)) (.tup (dts p)) = some false := by
    show (if (shDs 59 (dts p) && shDs 59 (dts p)) = true then some (!eqDs (dts p) (dts p)) else none) = _
    rw [sh_dts, eqDs_refl _ 59 (sh_dts 59 p)]
    rfl
  have c4 : CC F (k + 7) 117 [.ref n] st = .ok (.int tl.length) st := len_road (k := k + 6) (p := f) (rs := tl) (by rw [← ht]; exact h)
  have c5 := fun st : Hs => len_rows (R := rs ++ [p]) (st := st)
  have hlen : (((rs ++ [p]).length : Nat) : Int) = (tl.length : Int) + 1 := by rw [ht]; simp
  have htl : tl.length < 1000000 := by
    have := congrArg List.length ht
    simp at this
    omega
  have c6 : insOf st (.ref n) = some ("Road" : Str) := is_lenO h
  have c7 : CC F (k + 7) 118 [.ref n, .int 5] st = .ok (.bl false) st := eq_int (k := k + 6) h
  have i1 : CC F (k + 7) 111 [.ref st.length, .int m, r.d, .tup (dts f)] (st ++ [.ins "Road" []]) = .ok .non (st ++ [roadO r.d (rowsD [f]) (rowsD [])]) := init_road (k := k + 2) hm hf hr.ok hf' hs
  have g1 : (st ++ [roadO r.d (rowsD [f]) (rowsD [])])[n]? = some (roadO r.d (rowsD (rs ++ [p])) (rowsD us)) := by
    rw [List.getElem?_append_left (List.getElem?_eq_some_iff.mp h).1]
    exact h
  have g2 : (st ++ [roadO r.d (rowsD [f]) (rowsD [])])[st.length]? = some (roadO r.d (rowsD [f]) (rowsD [])) := top_get
  have s1 : nfH (st ++ [roadO r.d (rowsD [f]) (rowsD [])]) = true := nfH_app hs (by unfold nfH; rw [List.all_cons, nf_road (nf_d r) (nfs_rows _) (nfs_rows _)]; rfl)
  have q1 : CC F (k + 7) 118 [.ref n, .ref st.length] (st ++ [roadO r.d (rowsD [f]) (rowsD [])]) = .ok (.bl (tl.length == 0)) (st ++ [roadO r.d (rowsD [f]) (rowsD [])]) := by
    rw [eq_road (k := k + 6) g1 g2 (sh_d r) (sh_d r) (sh_rows 58 _) (sh_rows 58 _) (dr_d r _) (dr_d r _), eqD_refl _ 60 (sh_d r), ht]
    congr 2
    cases tl with
    | nil => exact eqDs_refl _ 59 (sh_rows 58 _)
    | cons x tl => exact eqDs_len _ _ (by rw [rowsD_len, rowsD_len]; simp)
  have q2 : insOf (st ++ [roadO r.d (rowsD [f]) (rowsD [])]) (.ref n) = some ("Road" : Str) := is_lenO g1
  have q3 : eqOk "Road" (st ++ [roadO r.d (rowsD [f]) (rowsD [])]) (.ref st.length) = true := decide_eq_true (is_lenO g2)
  have q4 : cmpV .ne (.bl (tl.length == 0)) (.bl (((rs ++ [p]).length : Int) == 1)) = some false := by
    rw [hlen]
    have : (((tl.length : Int) + 1) == 1) = (tl.length == 0) := by
      cases tl with
      | nil => rfl
      | cons x tl => simp; omega
    rw [this]
    show some (!((tl.length == 0) == (tl.length == 0))) = _
    simp
  have hR8 : (Ru.people (List.replicate m 8)).Ok m := ⟨List.length_replicate, fun x hx => by rw [(List.mem_replicate.mp hx).2]; decide, by rcases hm with rfl | rfl <;> decide⟩
  generalize hst1 : st ++ [roadO r.d (rowsD [f]) (rowsD [])] = st1 at *
  have i2 : CC F (k + 7) 111 [.ref st1.length, .int m, .tup [.str "people", .tup (dts (List.replicate m 8))], .tup (dts f)] (st1 ++ [.ins "Road" []]) = .ok .non (st1 ++ [roadO (.tup [.str "people", .tup (dts (List.replicate m 8))]) (rowsD [f]) (rowsD [])]) := init_road (k := k + 2) (r := .people (List.replicate m 8)) hm hf hR8 hf' s1
  generalize hst2 : st1 ++ [roadO (.tup [.str "people", .tup (dts (List.replicate m 8))]) (rowsD [f]) (rowsD [])] = st2 at *
  have g3 : st2[st.length]? = some (roadO r.d (rowsD [f]) (rowsD [])) := by
    rw [← hst2, List.getElem?_append_left (List.getElem?_eq_some_iff.mp g2).1]
    exact g2
  have g4 : st2[st1.length]? = some (roadO (.tup [.str "people", .tup (dts (List.replicate m 8))]) (rowsD [f]) (rowsD [])) := by
    rw [← hst2]
    exact top_get
  have s2 : nfH st2 = true := by
    rw [← hst2]
    exact nfH_app s1 (by unfold nfH; rw [List.all_cons, show nfO (roadO (.tup [.str "people", .tup (dts (List.replicate m 8))]) (rowsD [f]) (rowsD [])) = true from nf_road (nf_d (.people (List.replicate m 8))) (nfs_rows _) (nfs_rows _)]; rfl)
  have q5 : CC F (k + 7) 118 [.ref st.length, .ref st1.length] st2 = .ok (.bl false) st2 := by
    rw [eq_road (k := k + 6) g3 g4 (sh_d r) (sh_d (.people (List.replicate m 8))) (sh_rows 58 _) (sh_rows 58 _) (dr_d r _) rfl, eights hm hr]
    rfl
  have q6 : insOf st2 (.ref st.length) = some ("Road" : Str) := is_lenO g3
  have q7 : eqOk "Road" st2 (.ref st1.length) = true := decide_eq_true (is_lenO g4)
  have m8 := mul_repI (n := 8) hm
  have i3 : CC F (k + 7) 111 [.ref st2.length, .int m, r.d, .non] (st2 ++ [.ins "Road" []]) = .exc "InvalidPlaces" (st2 ++ [.ins "Road" []]) := init_places (k := k + 2) hm hr.ok s2
  have i4 : CC F (k + 7) 111 [.ref (st2 ++ [O.ins "Road" []]).length, .int m, .str "end", .tup (dts f)] ((st2 ++ [.ins "Road" []]) ++ [.ins "Road" []]) = .exc "InvalidRule" ((st2 ++ [.ins "Road" []]) ++ [.ins "Road" []]) := init_rule (k := k + 2) hm
  have hfin : (st2 ++ [O.ins "Road" []]) ++ [O.ins "Road" []] = st ++ ([roadO r.d (rowsD [f]) (rowsD [])] ++ ([roadO (.tup [.str "people", .tup (dts (List.replicate m 8))]) (rowsD [f]) (rowsD [])] ++ ([O.ins "Road" []] ++ [O.ins "Road" []]))) := by
    rw [← hst2, ← hst1]
    simp only [List.append_assoc]
  refine run_fin (st' := (st2 ++ [O.ins "Road" []]) ++ [O.ins "Road" []]) (d := .bl true) rfl ?_ (by rw [hfin]; exact fin_bl hs)
  generalize rowsD (rs ++ [p]) = w at *
  have n1 := end_1 (F := F) (m := m) (P := .tup (dts f)) (W := .lst w) h t1 t2 t3 t4 t5 t6 t7
  have n2 := end_2 (F := F) (m := m) (P := .tup (dts f)) (W := .lst w) (x := some (.tup [.int 1])) h u1 u2 u3 u4 u5
  have n3 := end_3 (F := F) (ρ := [some (.ref n), some (.int m), some r.d, some (.tup (dts f)), some (.lst w), some (.str "0"), none]) h c1 c2 c3 c4 (by rw [c5, hlen]) htl c7 rfl rfl
  have n4 := end_4 (F := F) (ρ := [some (.ref n), some (.int m), some r.d, some (.tup (dts f)), some (.lst w), some (.str "0"), none]) i1 rfl rfl rfl
  have n5 := end_5 (F := F) (ρ := [some (.ref n), some (.int m), some r.d, some (.tup (dts f)), some (.lst w), some (.str "0"), some (.ref st.length)]) (P := .tup (dts f)) q2 q3 q1 (c5 _) q4 m8 i2 q6 q7 q5 rfl rfl rfl rfl rfl
  have n6 := end_6 (F := F) (ρ := [some (.ref n), some (.int m), some r.d, some (.tup (dts f)), some (.lst w), some (.str "0"), some (.ref st.length)]) i3 rfl rfl
  have n7 := end_7 (F := F) (ρ := [some (.ref n), some (.int m), some r.d, some (.tup (dts f)), some (.lst w), some (.str "0"), some (.ref st.length)]) i4 rfl rfl
  exact (ss_nx n1).trans ((ss_nx n2).trans ((ss_nx n3).trans ((ss_nx n4).trans ((ss_nx n5).trans ((ss_nx n6).trans (ss_rt n7))))))
end
end U

namespace U
open PySem Rf
theorem rounds_any {F n : Nat} {ns : List Int} (M : Nat) (hM : 1 ≤ M ∧ M ≤ 5) (hn : ns.length ≤ 63) : ∃ cs : List (Int × Int), 1 ≤ cs.length ∧ cs.length ≤ M ∧ CC F (n + 2) 22 [.kl (dts ns), .int M] [] = .ok (.lst ((List.range cs.length).map .ref)) (dst cs) := by
  obtain ⟨v0, h0⟩ := cell_eq (F := F) (n := n) (k := 0) hn (by decide)
  obtain ⟨v1, h1⟩ := cell_eq (F := F) (n := n) (k := 1) hn (by decide)
  obtain ⟨v2, h2⟩ := cell_eq (F := F) (n := n) (k := 2) hn (by decide)
  obtain ⟨v3, h3⟩ := cell_eq (F := F) (n := n) (k := 3) hn (by decide)
  obtain ⟨v4, h4⟩ := cell_eq (F := F) (n := n) (k := 4) hn (by decide)
  have hl : ∀ st, bltV .len [.kl (dts ns)] st = some (.int (ns.length : Int)) := by
    intro st
    show some (D.int ((dts ns).length : Int)) = _
    rw [dts, List.length_map]
  have hb : ∀ st, bltV .min2 [.int M, .int (ns.length : Int)] st = some (.int (if (ns.length : Int) < (M : Int) then (ns.length : Int) else (M : Int))) := fun st => rfl
  have hm : ∀ st x, bltV .max2 [.int 1, .int x] st = some (.int (if x > 1 then x else 1)) := fun st x => rfl
  obtain ⟨c, ⟨hc, hcM⟩, e⟩ : ∃ c : Nat, ((c = 1 ∨ c = 2 ∨ c = 3 ∨ c = 4 ∨ c = 5) ∧ c ≤ M) ∧ (if (if (ns.length : Int) < (M : Int) then (ns.length : Int) else (M : Int)) > 1 then (if (ns.length : Int) < (M : Int) then (ns.length : Int) else (M : Int)) else 1) = (c : Int) := by
    by_cases a : (ns.length : Int) < (M : Int)
    · by_cases b : (ns.length : Int) > 1
      · refine ⟨ns.length, by omega, ?_⟩
        rw [if_pos a, if_pos b]
      · refine ⟨1, ⟨.inl rfl, hM.1⟩, ?_⟩
        rw [if_pos a, if_neg b]
        rfl
    · refine ⟨M, by omega, ?_⟩
      rw [if_neg a]
      split <;> omega
  have hm' : ∀ st, bltV .max2 [.int 1, .int (if (ns.length : Int) < (M : Int) then (ns.length : Int) else (M : Int))] st = some (.int (c : Int)) := fun st => by rw [hm, e]
  generalize (if (ns.length : Int) < (M : Int) then (ns.length : Int) else (M : Int)) = q at *
  generalize dts ns = zs at *
  rcases hc with rfl | rfl | rfl | rfl | rfl
  · refine ⟨[(v0, 0)], by simp, hcM, ?_⟩
    rw [call_eq (f := f__law_rounds) rfl]
    refine run_fin (f := f__law_rounds) (st' := dst [(v0, 0)]) (d := .lst ((List.range 1).map .ref)) rfl ?_ rfl
    simp [startR, evSs, evS, evE, evEs, evL, evIt, evTg, evC, compS, Res.bind, Res.sr, ok1, lenOk, setI, wipeR, itemAt, Kst.d, bigN, rngL, f__law_rounds, hl, hb, hm', h0, dst, List.range, List.range.loop]
  · refine ⟨[(v0, 0), (v1, 0)], by simp, hcM, ?_⟩
    rw [call_eq (f := f__law_rounds) rfl]
    refine run_fin (f := f__law_rounds) (st' := dst [(v0, 0), (v1, 0)]) (d := .lst ((List.range 2).map .ref)) rfl ?_ rfl
    simp [startR, evSs, evS, evE, evEs, evL, evIt, evTg, evC, compS, Res.bind, Res.sr, ok1, lenOk, setI, wipeR, itemAt, Kst.d, bigN, rngL, f__law_rounds, hl, hb, hm', h0, h1, dst, List.range, List.range.loop]
  · refine ⟨[(v0, 0), (v1, 0), (v2, 0)], by simp, hcM, ?_⟩
    rw [call_eq (f := f__law_rounds) rfl]
    refine run_fin (f := f__law_rounds) (st' := dst [(v0, 0), (v1, 0), (v2, 0)]) (d := .lst ((List.range 3).map .ref)) rfl ?_ rfl
    simp [startR, evSs, evS, evE, evEs, evL, evIt, evTg, evC, compS, Res.bind, Res.sr, ok1, lenOk, setI, wipeR, itemAt, Kst.d, bigN, rngL, f__law_rounds, hl, hb, hm', h0, h1, h2, dst, List.range, List.range.loop]
  · refine ⟨[(v0, 0), (v1, 0), (v2, 0), (v3, 0)], by simp, hcM, ?_⟩
    rw [call_eq (f := f__law_rounds) rfl]
    refine run_fin (f := f__law_rounds) (st' := dst [(v0, 0), (v1, 0), (v2, 0), (v3, 0)]) (d := .lst ((List.range 4).map .ref)) rfl ?_ rfl
    simp [startR, evSs, evS, evE, evEs, evL, evIt, evTg, evC, compS, Res.bind, Res.sr, ok1, lenOk, setI, wipeR, itemAt, Kst.d, bigN, rngL, f__law_rounds, hl, hb, hm', h0, h1, h2, h3, dst, List.range, List.range.loop]
  · refine ⟨[(v0, 0), (v1, 0), (v2, 0), (v3, 0), (v4, 0)], by simp, hcM, ?_⟩
    rw [call_eq (f := f__law_rounds) rfl]
    refine run_fin (f := f__law_rounds) (st' := dst [(v0, 0), (v1, 0), (v2, 0), (v3, 0), (v4, 0)]) (d := .lst ((List.range 5).map .ref)) rfl ?_ rfl
    simp [startR, evSs, evS, evE, evEs, evL, evIt, evTg, evC, compS, Res.bind, Res.sr, ok1, lenOk, setI, wipeR, itemAt, Kst.d, bigN, rngL, f__law_rounds, hl, hb, hm', h0, h1, h2, h3, h4, dst, List.range, List.range.loop]

theorem for_at {C : Calls} {F : Nat} {t : Tg} {it : It} {b : Ss} {ρ : Rho} {st st' : Hs} {en : Bool} {ds : List D} (h : evIt C F it ρ st = .ok (.st en ds) st') : evS C F (.for_ t it b) ρ st = forS en (fun d ρ st => (evTg C F t d ρ st).sr fun ρ st => evSs C F b ρ st) ds 0 ρ st' := by
  show (evIt C F it ρ st).sr _ = _
  rw [h]
  rfl
/-! ### rounds over a heap that grows -/
/-- a round by the cell i leaves the names, the cells, and more cells -/
def Rd (N k : Nat) (x : SR) : Prop := ∃ ρ' st', ρ'.length = N ∧ nfH st' = true ∧ k ≤ st'.length ∧ x = .next ρ' st'
theorem for_rd {C : Calls} {F N M : Nat} {b : Ss} (hN : 2 ≤ N) (hb : ∀ (st : Hs) (i : Nat) (a : Int × Int) (ρ : Rho), nfH st = true → M ≤ st.length → i < M → st[i]? = some (O.lst [.int a.1, .int a.2]) → ρ.length = N → ρ[1]? = some (some (.ref i)) → ∃ ρ' st', ρ'.length = N ∧ nfH st' = true ∧ M ≤ st'.length ∧ (∀ j, j < M → j ≠ i → st'[j]? = st[j]?) ∧ evSs C F b ρ st = .next ρ' st') :
    ∀ (is : List Nat) (k : Nat) (ρ : Rho) (st : Hs), is.Nodup → (∀ i ∈ is, i < M) → (∀ i ∈ is, ∃ a : Int × Int, st[i]? = some (O.lst [.int a.1, .int a.2])) → ρ.length = N → nfH st = true → M ≤ st.length → ∃ ρ' st', ρ'.length = N ∧
      forS false (fun d ρ st => (evTg C F (.name 1) d ρ st).sr fun ρ st => evSs C F b ρ st) (is.map .ref) k ρ st = .next ρ' st'
  | [], k, ρ, st, _, _, _, h2, _, _ => ⟨ρ, st, h2, rfl⟩
  | i :: is, k, ρ, st, hd, h1, ha, h2, h3, h4 => by
    obtain ⟨a, hia⟩ := ha i List.mem_cons_self
    obtain ⟨ρ1, st1, e1, e2, e3, e4, e5⟩ := hb st i a (ρ.set 1 (some (.ref i))) h3 h4 (h1 i List.mem_cons_self) hia (by rw [List.length_set]; exact h2) (List.getElem?_set_self (by omega))
    rw [List.nodup_cons] at hd
    obtain ⟨ρ2, st2, f1, f2⟩ := for_rd hN hb is (k + 1) ρ1 st1 hd.2 (fun j hj => h1 j (List.mem_cons_of_mem _ hj)) (fun j hj => by
      rw [e4 j (h1 j (List.mem_cons_of_mem _ hj)) (fun e => hd.1 (e ▸ hj))]
      exact ha j (List.mem_cons_of_mem _ hj)) e1 e2 e3
    refine ⟨ρ2, st2, f1, ?_⟩
    show (match evSs C F b (ρ.set 1 (some (.ref i))) st with
      | .next ρ' st' => forS false _ (is.map .ref) (k + 1) ρ' st'
      | r => r) = _
    rw [e5]
    exact f2
theorem put_self {i : Nat} {a : Int × Int} {st : Hs} (h : st[i]? = some (O.lst [.int a.1, .int a.2])) : put i a st = st := by
  unfold put
  obtain ⟨hl, e⟩ := List.getElem?_eq_some_iff.mp h
  rw [← e]
  exact List.set_getElem_self hl
theorem dst_cell {cs : List (Int × Int)} {i : Nat} (h : i < cs.length) : ∃ a : Int × Int, (dst cs)[i]? = some (O.lst [.int a.1, .int a.2]) := ⟨cs[i], dst_get (List.getElem?_eq_getElem h)⟩
/-- a law whose body is one for over the rounds and True behind it -/
theorem law_of {C : Calls} {F M : Nat} {f : Fn} {b : Ss} {ns : List Int} (hM : 1 ≤ M ∧ M ≤ 5) (hC : ∃ n, C 22 = CC F (n + 2) 22) (hn : ns.length ≤ 63) (hf : f.pars = 1 ∧ f.clean = true ∧ 2 ≤ f.size) (hb : f.body = .cons (.for_ (.name 1) (.seq (.call 22 (.cons (.v 0) (.cons (.k (.int M)) .nil)))) b) (.cons (.ret (.k (.bl true))) .nil))
    (hr : ∀ (L : Nat), 1 ≤ L → L ≤ M → ∀ (st : Hs) (i : Nat) (a : Int × Int) (ρ : Rho), nfH st = true → L ≤ st.length → i < L → st[i]? = some (O.lst [.int a.1, .int a.2]) → ρ.length = f.size → ρ[1]? = some (some (.ref i)) → ∃ ρ' st', ρ'.length = f.size ∧ nfH st' = true ∧ L ≤ st'.length ∧ (∀ j, j < L → j ≠ i → st'[j]? = st[j]?) ∧ evSs C F b ρ st = .next ρ' st') :
    runFn C F f [.kl (ns.map .int)] [] = .ok (.bl true) [] := by
  obtain ⟨n, hC⟩ := hC
  obtain ⟨cs, h1, h5, hrd⟩ := rounds_any (F := F) (n := n) M hM hn
  rw [← hC] at hrd
  obtain ⟨f1, f2, f3⟩ := hf
  have hl : (startR f [.kl (dts ns)]).length = f.size := by
    unfold startR
    rw [List.length_append, List.length_map, List.length_replicate]
    simp
    omega
  obtain ⟨ρ', st', e1, e3⟩ := for_rd (C := C) (F := F) (N := f.size) (M := cs.length) (b := b) f3 (hr cs.length h1 h5) (List.range cs.length) 0 (startR f [.kl (dts ns)]) (dst cs) List.nodup_range (fun i hi => List.mem_range.mp hi) (fun i hi => dst_cell (List.mem_range.mp hi)) hl nfH_dst (by rw [dst_len]; exact Nat.le_refl _)
  have hit : evIt C F (.seq (.call 22 (.cons (.v 0) (.cons (.k (.int M)) .nil)))) (startR f [.kl (dts ns)]) [] = .ok (.st false ((List.range cs.length).map .ref)) (dst cs) := by
    show (C 22 [.kl (dts ns), .int M] []).bind _ = _
    rw [hrd]
    rfl
  have hf : evS C F (.for_ (.name 1) (.seq (.call 22 (.cons (.v 0) (.cons (.k (.int M)) .nil)))) b) (startR f [.kl (dts ns)]) [] = .next ρ' st' := by
    show (evIt C F (.seq (.call 22 (.cons (.v 0) (.cons (.k (.int M)) .nil)))) (startR f [.kl (dts ns)]) []).sr _ = _
    rw [hit]
    exact e3
  have hbd : evSs C F f.body (startR f [.kl (dts ns)]) [] = .ret (.bl true) st' := by
    rw [hb]
    exact (ss_nx hf).trans rfl
  unfold runFn
  rw [if_pos (by rw [f1]; rfl)]
  show (match evSs C F f.body (startR f [.kl (dts ns)]) [] with
    | .next _ st' => fin f.clean 0 .non st'
    | .ret d st' => fin f.clean 0 d st'
    | .exc c st' => _
    | .stuck => .stuck) = _
  rw [hbd, f2]
  show fin true 0 (.bl true) st' = _
  unfold fin
  cases hq : Nat.ble st'.length 0 with
  | true =>
    have : st'.length = 0 := Nat.le_zero.mp (Nat.le_of_ble_eq_true hq)
    rw [List.eq_nil_of_length_eq_zero this]
    rfl
  | false =>
    rw [if_neg (by decide), if_pos rfl]
    rfl
end U

namespace K12
open PySem Rf U
def lawB : Ss := forB (headS f_law.body)
def turnB : Ss := forB (nthS 3 lawB)
def whichB : Ss := forB (nthS 2 turnB)
def backB : Ss := forB (nthS 5 lawB)
def forthB : Ss := forB (nthS 6 lawB)
def condS : S → E
  | .ife c _ _ => c
  | _ => .k .non
def thenS : S → Ss
  | .ife _ a _ => a
  | _ => .nil
def elseS : S → Ss
  | .ife _ _ b => b
  | _ => .nil
theorem ife_tt {C : Calls} {F : Nat} {c : E} {A B : Ss} {ρ : Rho} {st st1 : Hs} (h : evE C F c ρ st = .ok (.bl true) st1) : evS C F (.ife c A B) ρ st = evSs C F A ρ st1 := by
  show (evE C F c ρ st).sr _ = _
  rw [h]
  rfl
theorem ife_ff {C : Calls} {F : Nat} {c : E} {A B : Ss} {ρ : Rho} {st st1 : Hs} (h : evE C F c ρ st = .ok (.bl false) st1) : evS C F (.ife c A B) ρ st = evSs C F B ρ st1 := by
  show (evE C F c ρ st).sr _ = _
  rw [h]
  rfl
theorem tup_ne {p : List Int} : cmpV .ne (.tup (dts p)) (.tup (dts p)) = some false := by
  show (if (shDs 59 (dts p) && shDs 59 (dts p)) = true then some (!eqDs (dts p) (dts p)) else none) = _
  rw [sh_dts, eqDs_refl _ 59 (sh_dts 59 p)]
  rfl
theorem ix_at {st : Hs} {rs : List (List Int)} {p : List Int} {j : Nat} (h : rs[j]? = some p) (hl : rs.length ≤ 1000) : ixV st (.lst (rowsD rs)) (.int j) = some (.tup (dts p)) := by
  show (if lenOk (rowsD rs) = true then (match ixNat (rowsD rs).length j with | some j => (rowsD rs)[j]? | none => none) else none) = _
  have hj := (List.getElem?_eq_some_iff.mp h).1
  rw [if_pos (U.lenOk_le (by rw [rowsD_len]; omega)), rowsD_len]
  have : ixNat rs.length j = some j := by
    unfold ixNat
    rw [if_pos (by omega), if_pos (by omega)]
    rfl
  rw [this]
  show (rowsD rs)[j]? = _
  unfold rowsD
  rw [List.getElem?_map, h]
  rfl
section
variable {C : Calls} {F : Nat} {st st1 st2 st3 : Hs} {n nr i : Nat} {ρ : Rho} {R : D} {rs us : List (List Int)} {p q : List Int} {w u W : List D} {at_ : Int} {Ro : List D}
/-- at = roll(2) -/
theorem s0_ok (h1 : ρ[1]? = some (some (.ref i))) (c1 : C 21 [.ref i, .int 2] st = .ok (.int at_) st1) : evS C F (nthS 0 turnB) ρ st = .next (ρ.set 8 (some (.int at_))) st1 := by
  unfold turnB lawB f_law nthS headS forB
  simp [nthS, evS, evE, evEs, evTg, Res.bind, Res.sr, Kst.d, setI, h1, c1]
theorem cond_f (h3 : ρ[3]? = some (some (.ref nr))) (h8 : ρ[8]? = some (some (.int at_))) (hx : ixV st (.ref nr) (.int at_) = some (.lst (rowsD [p]))) : evE C F (condS (nthS 1 turnB)) ρ st = .ok (.bl false) st := by
  have e1 : bltV .len [.lst (rowsD [p])] st = some (.int 1) := rfl
  unfold turnB lawB f_law nthS headS forB
  simp [nthS, condS, evE, evEs, evB, Res.bind, ok1, ixK, Kst.d, dr_int, h3, h8, hx, e1, cmp_gt_int]
theorem cond_t {t : Int} (h1 : ρ[1]? = some (some (.ref i))) (h3 : ρ[3]? = some (some (.ref nr))) (h8 : ρ[8]? = some (some (.int at_))) (hx : ixV st (.ref nr) (.int at_) = some (.lst (rowsD rs))) (hl : 1 < rs.length) (c1 : C 21 [.ref i, .int 3] st = .ok (.int t) st1) : evE C F (condS (nthS 1 turnB)) ρ st = .ok (.bl (t == 0)) st1 := by
  have e1 := fun st : Hs => len_rows (R := rs) (st := st)
  have e2 : (1 : Int) < rs.length := by omega
  unfold turnB lawB f_law nthS headS forB
  simp [nthS, condS, evE, evEs, evB, Res.bind, ok1, ixK, Kst.d, dr_int, h1, h3, h8, hx, e1, e2, hl, cmp_gt_int, cmp_eq_int, c1]
/-- undone -/
theorem s1_undo {j : Nat} (h2 : ρ[2]? = some (some (.lst Ro))) (h3 : ρ[3]? = some (some (.ref nr))) (h8 : ρ[8]? = some (some (.int at_))) (hx2 : ∀ st, ixV st (.lst Ro) (.int at_) = some (.ref n)) (h : st[n]? = some (roadO R w u)) (hx : ixV st1 (.ref nr) (.int at_) = some (.lst (rowsD (rs ++ [q] ++ [p])))) (hl : rs.length ≤ 100) (hW : st1[nr]? = some (.lst W)) (hj : ixNat W.length at_ = some j)
    (c1 : C 115 [.ref n] st = .ok (.tup (dts q)) st1) : evSs C F (thenS (nthS 1 turnB)) ρ st = .next ρ (st1.set nr (.lst (W.set j (.lst (rowsD (rs ++ [q])))))) := by
  have e1 := fun st : Hs => ix_last2 (st := st) (rs := rs) (p := q) (q := p) (by omega)
  have e2 := sl_front (rs := rs ++ [q]) (p := p)
  have e3 := tup_ne (p := q)
  generalize rowsD (rs ++ [q] ++ [p]) = w2 at *
  generalize rowsD (rs ++ [q]) = w1 at *
  unfold turnB lawB f_law nthS headS forB
  simp [nthS, thenS, evS, evSs, evE, evEs, evO, evTg, Res.bind, Res.sr, ok1, ixK, Kst.d, dr_lst, dr_tup, h2, h3, h8, hx2, h, lk_undo, c1, hx, e1, e2, e3, hW, hj]
/-- told -/
theorem s1_tell {j : Nat} {jp s : Int} {b : Bool} (hn : ρ.length = 15) (h1 : ρ[1]? = some (some (.ref i))) (h2 : ρ[2]? = some (some (.lst Ro))) (h3 : ρ[3]? = some (some (.ref nr))) (h8 : ρ[8]? = some (some (.int at_))) (hx2 : ∀ st, ixV st (.lst Ro) (.int at_) = some (.ref n))
    (c1 : C 21 [.ref i, .int (2 + at_)] st = .ok (.int jp) st1) (c2 : C 21 [.ref i, .int 9] st1 = .ok (.int s) st2) (hx : ixV st2 (.ref nr) (.int at_) = some (.lst (rowsD (rs ++ [p])))) (h : st2[n]? = some (roadO R w u)) (c3 : C 114 [.ref n, .int jp, .int (1 + s)] st2 = .ok (.bl b) st3) (hx3 : ixV st3 (.ref nr) (.int at_) = some (.lst (rowsD (rs ++ [p])))) (hW : st3[nr]? = some (.lst W)) (hj : ixNat W.length at_ = some j)
    (hl : rs.length ≤ 100) (hp : p.length = 2 ∨ p.length = 3) (hj0 : 0 ≤ jp) (hj1 : jp < p.length) :
    evSs C F (elseS (nthS 1 turnB)) ρ st = .next (((ρ.set 10 (some (.int jp))).set 11 (some (.int (1 + s)))).set 12 (some (.tup (dts p)))) (st3.set nr (.lst (W.set j (.lst (rowsD (rs ++ [p] ++ [p.set jp.toNat (1 + s)])))))) := by
  obtain ⟨a, b, s1, s2, s3, s4⟩ := re_place (v := 1 + s) hp hj0 hj1
  have e6 : binV .add (.lst (rowsD (rs ++ [p]))) (.lst [.tup (dts (p.set jp.toNat (1 + s)))]) = some (.lst (rowsD (rs ++ [p] ++ [p.set jp.toNat (1 + s)]))) := by
    rw [add_lst (by rw [rowsD_len, List.length_append]; simp; omega) (by simp), rowsD_app (rs ++ [p])]
    rfl
  have e3 := fun st : Hs => ix_last (st := st) (rs := rs) (p := p) (by omega)
  generalize rowsD (rs ++ [p] ++ [p.set jp.toNat (1 + s)]) = w2 at *
  generalize rowsD (rs ++ [p]) = w1 at *
  match ρ, hn with
  | [x0, x1, x2, x3, x4, x5, x6, x7, x8, x9, x10, x11, x12, x13, x14], _ =>
    simp only [List.getElem?_cons_succ, List.getElem?_cons_zero, Option.some.injEq] at h1 h2 h3 h8
    subst h1 h2 h3 h8
    unfold turnB lawB f_law nthS headS forB
    simp [nthS, elseS, evS, evSs, evE, evEs, evL, evO, evTg, evTgs, Res.bind, Res.sr, ok1, ixK, Kst.d, Tgs.len, setI, dr_lst, dr_tup, dr_int, add_int, c1, c2, hx, hx2, e3, h, lk_tell, c3, hx3, s1, s2, s3, s4, lenOk_one, e6, hW, hj]
/-- what is asked of a road -/
theorem w_ok {v B : Int} {Rl : List D} (hn : ρ.length = 15) (h2 : ρ[2]? = some (some (.lst Ro))) (h3 : ρ[3]? = some (some (.ref nr))) (h6 : ρ[6]? = some (some (.lst Rl))) (h9 : ρ[9]? = some (some (.int at_))) (hx2 : ∀ st, ixV st (.lst Ro) (.int at_) = some (.ref n)) (hx6 : ∀ st, ixV st (.lst Rl) (.int at_) = some R) (hx : ixV st (.ref nr) (.int at_) = some (.lst (rowsD (rs ++ [p])))) (hl : rs.length ≤ 100) (h : st[n]? = some (roadO R w u))
    (c1 : C 33 [R, .tup (dts p)] st = .ok (.tup [.int v, .int B]) st) (c2 : C 112 [.ref n] st = .ok (.tup (dts p)) st) (c3 : C 113 [.ref n] st = .ok (low v B) st) (c4 : C 34 [.int v, .int B] st = .ok (low v B) st) :
    evSs C F whichB ρ st = .next ((ρ.set 13 (some (.int v))).set 14 (some (.int B))) st := by
  have e3 := fun st : Hs => ix_last (st := st) (rs := rs) (p := p) (by omega)
  have e4 := tup_ne (p := p)
  have e5 : ∀ x y, cmpV .ne (low x y) (low x y) = some false := fun x y => pair_ne
  generalize rowsD (rs ++ [p]) = w1 at *
  match ρ, hn with
  | [x0, x1, x2, x3, x4, x5, x6, x7, x8, x9, x10, x11, x12, x13, x14], _ =>
    simp only [List.getElem?_cons_succ, List.getElem?_cons_zero, Option.some.injEq] at h2 h3 h6 h9
    subst h2 h3 h6 h9
    unfold whichB turnB lawB f_law nthS headS forB
    simp [nthS, evS, evSs, evE, evEs, evTg, evTgs, Res.bind, Res.sr, ok1, ixK, Kst.d, Tgs.len, setI, dr_lst, dr_tup, dr_low, hx, hx2, hx6, e3, e4, e5, h, lk_places, lk_meeting, c1, c2, c3, c4]
/-- back and forth -/
theorem b_ok {j k : Int} {ix : Nat} (h2 : ρ[2]? = some (some (.lst Ro))) (h3 : ρ[3]? = some (some (.ref nr))) (h5 : ρ[5]? = some (some (.int j))) (h4 : ρ[4]? = some (some (.int k))) (hx2 : ∀ st, ixV st (.lst Ro) (.int 1) = some (.ref n)) (h : st[n]? = some (roadO R w u)) (c1 : C 115 [.ref n] st = .ok (.tup (dts q)) st1) (hx : ixV st1 (.ref nr) (.int 1) = some (.lst (rowsD rs))) (hi : j - k - 1 = ix) (hq : rs[ix]? = some q) (hl : rs.length ≤ 1000) :
    evSs C F backB ρ st = .next ρ st1 := by
  have e1 := fun st : Hs => ix_at (st := st) hq hl
  have e4 := tup_ne (p := q)
  unfold backB lawB f_law nthS headS forB
  simp [nthS, evS, evSs, evE, evEs, Res.bind, Res.sr, ok1, ixK, Kst.d, dr_lst, dr_tup, dr_int, h2, h3, h4, h5, hx2, h, lk_undo, c1, hx, sub_int, hi, e1, e4]
theorem f_ok {k : Int} {ix : Nat} (h2 : ρ[2]? = some (some (.lst Ro))) (h3 : ρ[3]? = some (some (.ref nr))) (h4 : ρ[4]? = some (some (.int k))) (hx2 : ∀ st, ixV st (.lst Ro) (.int 1) = some (.ref n)) (h : st[n]? = some (roadO R w u)) (c1 : C 116 [.ref n] st = .ok (.tup (dts q)) st1) (hx : ixV st1 (.ref nr) (.int 1) = some (.lst (rowsD rs))) (hi : k + 1 = ix) (hq : rs[ix]? = some q) (hl : rs.length ≤ 1000) :
    evSs C F forthB ρ st = .next ρ st1 := by
  have e1 := fun st : Hs => ix_at (st := st) hq hl
  have e4 := tup_ne (p := q)
  unfold forthB lawB f_law nthS headS forB
  simp [nthS, evS, evSs, evE, evEs, Res.bind, Res.sr, ok1, ixK, Kst.d, dr_lst, dr_tup, dr_int, h2, h3, h4, hx2, h, lk_redo, c1, hx, add_int, hi, e1, e4]
end
end K12

namespace K12
open PySem Rf U
/-! ### the heap: dice, two roads, the law's rows -/
abbrev Rws := Bool → List (List Int)
def updB {α : Type} (f : Bool → α) (b : Bool) (x : α) : Bool → α := fun c => if c = b then x else f c
theorem updB_same {α : Type} {f : Bool → α} {b : Bool} {x : α} : updB f b x b = x := by unfold updB; rw [if_pos rfl]
theorem updB_id {α : Type} {f : Bool → α} {b : Bool} : updB f b (f b) = f := by
  funext c
  unfold updB
  split
  · next h => rw [h]
  · rfl
theorem updB_upd {α : Type} {f : Bool → α} {b : Bool} {x y : α} : updB (updB f b x) b y = updB f b y := by
  funext c
  unfold updB
  split <;> rfl
def ro (r : Bool → Ru) (rs us : Rws) (b : Bool) : O := roadO (r b).d (rowsD (rs b)) (rowsD (us b))
def wo (ws : Rws) : O := .lst [.lst (rowsD (ws false)), .lst (rowsD (ws true))]
def Hk (st : Hs) (i : Nat) (r : Bool → Ru) (a : Int × Int) (rs us ws : Rws) : Hs := put i a (st ++ [ro r rs us false, ro r rs us true, wo ws])
def nB (st : Hs) (b : Bool) : Nat := if b then st.length + 1 else st.length
def mB (b : Bool) : Nat := if b then 3 else 2
def aB (b : Bool) : Int := if b then 1 else 0
def jB (b : Bool) : Nat := if b then 1 else 0
theorem mB_ok (b : Bool) : mB b = 2 ∨ mB b = 3 := by cases b <;> simp [mB]
section
variable {st : Hs} {i : Nat} {r : Bool → Ru} {a : Int × Int} {rs us ws : Rws} {b : Bool}
theorem Hk_len : (Hk st i r a rs us ws).length = st.length + 3 := by
  unfold Hk
  rw [put_len, List.length_append]
  rfl
theorem Hk_get (hi : i < st.length) : (Hk st i r a rs us ws)[nB st b]? = some (roadO (r b).d (rowsD (rs b)) (rowsD (us b))) := by
  unfold Hk
  cases b with
  | false =>
    rw [put_ne (by simp [nB]; omega), List.getElem?_append_right (by simp [nB])]
    simp [nB, ro]
  | true =>
    rw [put_ne (by simp [nB]; omega), List.getElem?_append_right (by simp [nB])]
    simp [nB, ro]
theorem Hk_w (hi : i < st.length) : (Hk st i r a rs us ws)[st.length + 2]? = some (wo ws) := by
  unfold Hk
  rw [put_ne (by omega), List.getElem?_append_right (by omega)]
  simp
theorem Hk_ix (hi : i < st.length) : ixV (Hk st i r a rs us ws) (.ref (st.length + 2)) (.int (aB b)) = some (.lst (rowsD (ws b))) := by
  have e : items (Hk st i r a rs us ws) (.ref (st.length + 2)) = some [.lst (rowsD (ws false)), .lst (rowsD (ws true))] := by
    unfold items dr
    dsimp only
    rw [Hk_w hi]
    rfl
  unfold ixV
  dsimp only
  rw [e]
  cases b <;> rfl
theorem Hk_set (hi : i < st.length) {x y : List (List Int)} : (Hk st i r a rs us ws).set (nB st b) (roadO (r b).d (rowsD x) (rowsD y)) = Hk st i r a (updB rs b x) (updB us b y) ws := by
  unfold Hk
  cases b with
  | false =>
    rw [put_set (by simp [nB]; omega), List.set_append_right _ _ (by simp [nB])]
    simp [nB, ro, updB]
  | true =>
    rw [put_set (by simp [nB]; omega), List.set_append_right _ _ (by simp [nB])]
    simp [nB, ro, updB]
theorem Hk_setW (hi : i < st.length) {x : List (List Int)} : (Hk st i r a rs us ws).set (st.length + 2) (.lst ([D.lst (rowsD (ws false)), .lst (rowsD (ws true))].set (jB b) (.lst (rowsD x)))) = Hk st i r a rs us (updB ws b x) := by
  unfold Hk
  rw [put_set (by omega), List.set_append_right _ _ (by omega)]
  cases b <;> simp [wo, updB, jB]
theorem Hk_nf (hs : nfH st = true) : nfH (Hk st i r a rs us ws) = true := by
  refine nfH_put (nfH_app hs ?_)
  unfold nfH
  rw [List.all_cons, List.all_cons, List.all_cons, show nfO (ro r rs us false) = true from nf_road (nf_d _) (nfs_rows _) (nfs_rows _), show nfO (ro r rs us true) = true from nf_road (nf_d _) (nfs_rows _) (nfs_rows _)]
  simp only [wo, nfO, nfs, nf, nfs_rows, List.all_nil, Bool.and_self]
theorem Hk_roll {F k : Nat} (a : Int × Int) (m : Int) (hi : i < st.length) (h1 : 0 < m) (h2 : m ≤ 10000000) : ∃ t b, 0 ≤ t ∧ t < m ∧ CC F (k + 2) 21 [.ref i, .int m] (Hk st i r a rs us ws) = .ok (.int t) (Hk st i r b rs us ws) := rollP a m (by rw [List.length_append]; omega) h1 h2
end
structure Gd (m : Nat) (rs us : List (List Int)) (c : Nat) : Prop where
  ne : rs ≠ []
  len : rs.length + us.length ≤ c
  ok : ∀ p ∈ rs, p.length = m ∧ PlOk p
  ok' : ∀ p ∈ us, p.length = m ∧ PlOk p
theorem Gd.up {m : Nat} {rs us : List (List Int)} {c : Nat} (g : Gd m rs us c) : Gd m rs us (c + 1) := ⟨g.ne, by have := g.len; omega, g.ok, g.ok'⟩
structure Rh (st : Hs) (i : Nat) (r : Bool → Ru) (ρ : Rho) : Prop where
  len : ρ.length = 15
  h1 : ρ[1]? = some (some (.ref i))
  h2 : ρ[2]? = some (some (.lst [.ref (nB st false), .ref (nB st true)]))
  h3 : ρ[3]? = some (some (.ref (st.length + 2)))
  h6 : ρ[6]? = some (some (.lst [(r false).d, (r true).d]))
theorem Rh.set {st : Hs} {i : Nat} {r : Bool → Ru} {ρ : Rho} (h : Rh st i r ρ) (k : Nat) (x : Option D) (hk : k ≠ 1 ∧ k ≠ 2 ∧ k ≠ 3 ∧ k ≠ 6) : Rh st i r (ρ.set k x) :=
  ⟨by rw [List.length_set]; exact h.len, by rw [List.getElem?_set_ne hk.1]; exact h.h1, by rw [List.getElem?_set_ne hk.2.1]; exact h.h2, by rw [List.getElem?_set_ne hk.2.2.1]; exact h.h3, by rw [List.getElem?_set_ne hk.2.2.2]; exact h.h6⟩
theorem set_ok {m : Nat} {p : List Int} {j : Nat} {v : Int} (h : p.length = m ∧ PlOk p) (hv : 1 ≤ v ∧ v ≤ 1000000) : (p.set j v).length = m ∧ PlOk (p.set j v) := by
  refine ⟨by rw [List.length_set]; exact h.1, fun x hx => ?_⟩
  rcases List.mem_or_eq_of_mem_set hx with hx | rfl
  · exact h.2 x hx
  · exact hv
theorem ix_road {st0 : Hs} {b : Bool} {x y : D} (st : Hs) : ixV st (.lst [x, y]) (.int (aB b)) = some (if b then y else x) := by cases b <;> rfl
theorem last_of {rs : List (List Int)} (h : rs ≠ []) : ∃ rs0 p, rs = rs0 ++ [p] := by
  rcases List.eq_nil_or_concat rs with h' | ⟨a, b, h'⟩
  · exact absurd h' h
  · exact ⟨a, b, by rw [h', List.concat_eq_append]⟩
section
variable {st : Hs} {i : Nat} {r : Bool → Ru} {a : Int × Int} {rs us : Rws} {ρ : Rho} {c : Nat}
/-- one road's turn: undone or told -/
theorem step_ok (hs : nfH st = true) (hi : i < st.length) (hr : ∀ b, (r b).Ok (mB b)) (G : ∀ b, Gd (mB b) (rs b) (us b) c) (hc : c ≤ 50) (hρ : Rh st i r ρ) (b : Bool) (h8 : ρ[8]? = some (some (.int (aB b)))) :
    ∃ ρ' a' rs' us', (∀ b, Gd (mB b) (rs' b) (us' b) (c + 1)) ∧ Rh st i r ρ' ∧ evS (CC 1000 11) 1000 (nthS 1 turnB) ρ (Hk st i r a rs us rs) = .next ρ' (Hk st i r a' rs' us' rs') := by
  obtain ⟨rs0, p, hrs⟩ := last_of (G b).ne
  have hl := (G b).len
  rw [hrs] at hl
  have hl0 : rs0.length + 1 + (us b).length ≤ c := by simpa using hl
  have hp : p.length = mB b ∧ PlOk p := (G b).ok p (by rw [hrs]; simp)
  have hp2 : p.length = 2 ∨ p.length = 3 := by rw [hp.1]; exact mB_ok b
  have hx2 : ∀ st' : Hs, ixV st' (.lst [.ref (nB st false), .ref (nB st true)]) (.int (aB b)) = some (.ref (nB st b)) := fun st' => by cases b <;> rfl
  have hj : ∀ x y : D, ixNat [x, y].length (aB b) = some (jB b) := fun x y => by cases b <;> rfl
  have hc2 : ∀ {A B : Ss}, nthS 1 turnB = .ife (condS (nthS 1 turnB)) (thenS (nthS 1 turnB)) (elseS (nthS 1 turnB)) := rfl
  -- told, from any dice
  have tell : ∀ a : Int × Int, ∃ ρ' a' rs' us', (∀ b, Gd (mB b) (rs' b) (us' b) (c + 1)) ∧ Rh st i r ρ' ∧ evSs (CC 1000 11) 1000 (elseS (nthS 1 turnB)) ρ (Hk st i r a rs us rs) = .next ρ' (Hk st i r a' rs' us' rs') := by
    intro a
    obtain ⟨jp, a1, j0, j1, c1⟩ := Hk_roll (F := 1000) (k := 9) (r := r) (rs := rs) (us := us) (ws := rs) a (2 + aB b) hi (by cases b <;> decide) (by cases b <;> decide)
    obtain ⟨s, a2, s0, s1, c2⟩ := Hk_roll (F := 1000) (k := 9) (r := r) (rs := rs) (us := us) (ws := rs) a1 9 hi (by decide) (by decide)
    have hv : 1 ≤ 1 + s ∧ 1 + s ≤ 1000000 := by omega
    have hjm : jp < (mB b : Nat) := by cases b <;> simp [mB, aB] at * <;> omega
    have g := Hk_get (b := b) (r := r) (a := a2) (rs := rs) (us := us) (ws := rs) hi
    rw [hrs] at g
    have c3 := tell_road (F := 1000) (k := 4) (j := jp) (v := 1 + s) (mB_ok b) hp.1 (hr b) (by decide) (Hk_nf hs) g (by omega) j0 hjm hv
    rw [show ([] : List D) = rowsD [] from rfl, Hk_set hi] at c3
    have hx : ixV (Hk st i r a2 rs us rs) (.ref (st.length + 2)) (.int (aB b)) = some (.lst (rowsD (rs0 ++ [p]))) := by rw [Hk_ix hi, hrs]
    have hx3 : ixV (Hk st i r a2 (updB rs b (rs0 ++ [p] ++ [p.set jp.toNat (1 + s)])) (updB us b []) rs) (.ref (st.length + 2)) (.int (aB b)) = some (.lst (rowsD (rs0 ++ [p]))) := by rw [Hk_ix hi, hrs]
    have n1 := s1_tell (C := CC 1000 11) (F := 1000) (ρ := ρ) (j := jB b) hρ.len hρ.h1 hρ.h2 hρ.h3 h8 hx2 c1 c2 hx g c3 hx3 (Hk_w hi) (hj _ _) (by omega) hp2 j0 (by omega)
    rw [Hk_setW hi] at n1
    have ok2 := set_ok (j := jp.toNat) hp hv
    refine ⟨_, a2, updB rs b (rs0 ++ [p] ++ [p.set jp.toNat (1 + s)]), updB us b [], ?_, ?_, n1⟩
    · intro b'
      by_cases hb : b' = b
      · subst hb
        rw [updB_same, updB_same]
        refine ⟨by simp, by simp; omega, ?_, by simp⟩
        intro q hq
        rcases List.mem_append.mp hq with h | h
        · exact (G b').ok q (by rw [hrs]; exact h)
        · rw [List.mem_singleton.mp h]
          exact ok2
      · unfold updB
        rw [if_neg hb, if_neg hb]
        exact (G b').up
    · exact ((hρ.set 10 _ (by decide)).set 11 _ (by decide)).set 12 _ (by decide)
  by_cases h1 : rs0 = []
  · -- nothing to undo
    subst h1
    obtain ⟨ρ', a', rs', us', G', h', e⟩ := tell a
    refine ⟨ρ', a', rs', us', G', h', ?_⟩
    have hx : ixV (Hk st i r a rs us rs) (.ref (st.length + 2)) (.int (aB b)) = some (.lst (rowsD [p])) := by rw [Hk_ix hi, hrs]; rfl
    exact (ife_ff (cond_f hρ.h3 h8 hx)).trans e
  · obtain ⟨rs1, q, rfl⟩ := last_of h1
    obtain ⟨t, a1, t0, t1, c1⟩ := Hk_roll (F := 1000) (k := 9) (r := r) (rs := rs) (us := us) (ws := rs) a 3 hi (by decide) (by decide)
    have hx : ixV (Hk st i r a rs us rs) (.ref (st.length + 2)) (.int (aB b)) = some (.lst (rowsD (rs1 ++ [q] ++ [p]))) := by rw [Hk_ix hi, hrs]
    have cd := cond_t (C := CC 1000 11) (F := 1000) hρ.h1 hρ.h3 h8 hx (by simp) c1
    cases ht : t == 0 with
    | false =>
      rw [ht] at cd
      obtain ⟨ρ', a', rs', us', G', h', e⟩ := tell a1
      exact ⟨ρ', a', rs', us', G', h', (ife_ff cd).trans e⟩
    | true =>
      rw [ht] at cd
      have hl1 : rs1.length + 2 + (us b).length ≤ c := by
        have : (rs1 ++ [q]).length = rs1.length + 1 := by simp
        omega
      have g := Hk_get (b := b) (r := r) (a := a1) (rs := rs) (us := us) (ws := rs) hi
      rw [hrs] at g
      have c4 := undo_road (F := 1000) (k := 9) (nf_d (r b)) g (by omega) (by omega)
      rw [Hk_set hi] at c4
      have hx3 : ixV (Hk st i r a1 (updB rs b (rs1 ++ [q])) (updB us b (us b ++ [p])) rs) (.ref (st.length + 2)) (.int (aB b)) = some (.lst (rowsD (rs1 ++ [q] ++ [p]))) := by rw [Hk_ix hi, hrs]
      have n1 := s1_undo (C := CC 1000 11) (F := 1000) (ρ := ρ) (j := jB b) hρ.h2 hρ.h3 h8 hx2 g hx3 (by omega) (Hk_w hi) (hj _ _) c4
      rw [Hk_setW hi] at n1
      refine ⟨ρ, a1, updB rs b (rs1 ++ [q]), updB us b (us b ++ [p]), ?_, hρ, (ife_tt cd).trans n1⟩
      intro b'
      by_cases hb : b' = b
      · subst hb
        rw [updB_same, updB_same]
        refine ⟨by simp, by simp; omega, fun z hz => (G b').ok z (by rw [hrs]; exact List.mem_append_left _ hz), ?_⟩
        intro z hz
        rcases List.mem_append.mp hz with h | h
        · exact (G b').ok' z h
        · rw [List.mem_singleton.mp h]
          exact hp
      · unfold updB
        rw [if_neg hb, if_neg hb]
        exact (G b').up
/-- both are asked -/
theorem ask_ok (hs : nfH st = true) (hi : i < st.length) (hr : ∀ b, (r b).Ok (mB b)) (G : ∀ b, Gd (mB b) (rs b) (us b) c) (hc : c ≤ 60) (hρ : Rh st i r ρ) : ∃ ρ', Rh st i r ρ' ∧ evS (CC 1000 11) 1000 (nthS 2 turnB) ρ (Hk st i r a rs us rs) = .next ρ' (Hk st i r a rs us rs) := by
  have one : ∀ (b : Bool) (ρ : Rho), Rh st i r ρ → ρ[9]? = some (some (.int (aB b))) → ∃ ρ', Rh st i r ρ' ∧ evSs (CC 1000 11) 1000 whichB ρ (Hk st i r a rs us rs) = .next ρ' (Hk st i r a rs us rs) := by
    intro b ρ hρ h9
    obtain ⟨rs0, p, hrs⟩ := last_of (G b).ne
    have hl := (G b).len
    rw [hrs] at hl
    have hl0 : rs0.length + 1 + (us b).length ≤ c := by simpa using hl
    have hp : p.length = mB b ∧ PlOk p := (G b).ok p (by rw [hrs]; simp)
    have hx2 : ∀ st' : Hs, ixV st' (.lst [.ref (nB st false), .ref (nB st true)]) (.int (aB b)) = some (.ref (nB st b)) := fun st' => by cases b <;> rfl
    have hx6 : ∀ st' : Hs, ixV st' (.lst [(r false).d, (r true).d]) (.int (aB b)) = some (r b).d := fun st' => by cases b <;> rfl
    have g := Hk_get (b := b) (r := r) (a := a) (rs := rs) (us := us) (ws := rs) hi
    rw [hrs] at g
    have hx : ixV (Hk st i r a rs us rs) (.ref (st.length + 2)) (.int (aB b)) = some (.lst (rowsD (rs0 ++ [p]))) := by rw [Hk_ix hi, hrs]
    have n1 := w_ok (C := CC 1000 11) (F := 1000) (ρ := ρ) hρ.len hρ.h2 hρ.h3 hρ.h6 h9 hx2 hx6 hx (by omega) g (ownH (n := 10) (mB_ok b) hp.1 (hr b)) (places_road (k := 10) g (by omega)) (meeting_road (k := 5) (mB_ok b) hp.1 (hr b) (by decide) (Hk_nf hs) g (by omega)) (fracH (n := 10) (hr b) (mB_ok b) (by decide))
    exact ⟨_, (hρ.set 13 _ (by decide)).set 14 _ (by decide), n1⟩
  obtain ⟨ρ1, h1, e1⟩ := one false (ρ.set 9 (some (.int 0))) (hρ.set 9 _ (by decide)) (List.getElem?_set_self (by rw [hρ.len]; decide))
  obtain ⟨ρ2, h2, e2⟩ := one true (ρ1.set 9 (some (.int 1))) (h1.set 9 _ (by decide)) (List.getElem?_set_self (by rw [h1.len]; decide))
  refine ⟨ρ2, h2, ?_⟩
  refine (for_at (en := false) (ds := [.int 0, .int 1]) (by rfl)).trans ?_
  show (match evSs (CC 1000 11) 1000 whichB (ρ.set 9 (some (.int 0))) (Hk st i r a rs us rs) with
    | .next ρ' st' => (match evSs (CC 1000 11) 1000 whichB (ρ'.set 9 (some (.int 1))) st' with
      | .next ρ' st' => SR.next ρ' st'
      | r => r)
    | r => r) = _
  rw [e1]
  dsimp only
  rw [e2]
theorem turn_ok (hs : nfH st = true) (hi : i < st.length) (hr : ∀ b, (r b).Ok (mB b)) (G : ∀ b, Gd (mB b) (rs b) (us b) c) (hc : c ≤ 50) (hρ : Rh st i r ρ) :
    ∃ ρ' a' rs' us', (∀ b, Gd (mB b) (rs' b) (us' b) (c + 1)) ∧ Rh st i r ρ' ∧ evSs (CC 1000 11) 1000 turnB ρ (Hk st i r a rs us rs) = .next ρ' (Hk st i r a' rs' us' rs') := by
  obtain ⟨t, a1, t0, t1, c1⟩ := Hk_roll (F := 1000) (k := 9) (r := r) (rs := rs) (us := us) (ws := rs) a 2 hi (by decide) (by decide)
  obtain ⟨b, hb⟩ : ∃ b : Bool, t = aB b := by
    have : t = 0 ∨ t = 1 := by omega
    rcases this with h | h
    · exact ⟨false, h⟩
    · exact ⟨true, h⟩
  subst hb
  have n0 := s0_ok (C := CC 1000 11) (F := 1000) hρ.h1 c1
  have hρ1 := hρ.set 8 (some (.int (aB b))) (by decide)
  obtain ⟨ρ2, a2, rs2, us2, G2, hρ2, n1⟩ := step_ok (a := a1) hs hi hr G hc hρ1 b (List.getElem?_set_self (by rw [hρ.len]; decide))
  obtain ⟨ρ3, hρ3, n2⟩ := ask_ok (a := a2) hs hi hr G2 (by omega) hρ2
  exact ⟨ρ3, a2, rs2, us2, G2, hρ3, (ss_nx n0).trans ((ss_nx n1).trans ((ss_nx n2).trans rfl))⟩
theorem turns_ok (hs : nfH st = true) (hi : i < st.length) (hr : ∀ b, (r b).Ok (mB b)) : ∀ (ks : List D) (j : Nat) (ρ : Rho) (a : Int × Int) (rs us : Rws) (c : Nat), c + ks.length ≤ 50 → (∀ b, Gd (mB b) (rs b) (us b) c) → Rh st i r ρ →
    ∃ ρ' a' rs' us', (∀ b, Gd (mB b) (rs' b) (us' b) 50) ∧ Rh st i r ρ' ∧ forS false (fun d ρ st => (evTg (CC 1000 11) 1000 (.name 4) d ρ st).sr fun ρ st => evSs (CC 1000 11) 1000 turnB ρ st) ks j ρ (Hk st i r a rs us rs) = .next ρ' (Hk st i r a' rs' us' rs')
  | [], j, ρ, a, rs, us, c, hc, G, h => ⟨ρ, a, rs, us, fun b => ⟨(G b).ne, by have := (G b).len; simp at hc; omega, (G b).ok, (G b).ok'⟩, h, rfl⟩
  | k :: ks, j, ρ, a, rs, us, c, hc, G, h => by
    obtain ⟨ρ1, a1, rs1, us1, G1, h1, e1⟩ := turn_ok (a := a) hs hi hr G (by simp at hc; omega) (h.set 4 (some k) (by decide))
    obtain ⟨ρ2, a2, rs2, us2, G2, h2, e2⟩ := turns_ok hs hi hr ks (j + 1) ρ1 a1 rs1 us1 (c + 1) (by simp at hc; omega) G1 h1
    refine ⟨ρ2, a2, rs2, us2, G2, h2, ?_⟩
    show (match evSs (CC 1000 11) 1000 turnB (ρ.set 4 (some k)) (Hk st i r a rs us rs) with
      | .next ρ' st' => forS false _ ks (j + 1) ρ' st'
      | r => r) = _
    rw [e1]
    exact e2
end
end K12

namespace K12
open PySem Rf U
section
variable {st : Hs} {i : Nat} {r : Bool → Ru} {a : Int × Int} {rs us : Rws}
theorem mid_at {X Z : List (List Int)} {q : List Int} : (X ++ [q] ++ Z)[X.length]? = some q := by
  rw [List.append_assoc, List.getElem?_append_right (Nat.le_refl _), Nat.sub_self]
  rfl
theorem back_ok (hi : i < st.length) {U : List (List Int)} {back : Int} (hl : (rs true).length ≤ 50) (hU : U.length ≤ 50) : ∀ (n : Nat) (k : Int) (j : Nat) (ρ : Rho) (X Y : List (List Int)), X.length = n + 1 → X ++ Y.reverse = rs true → k + n = back → Rh st i r ρ → ρ[5]? = some (some (.int back)) →
    ∃ ρ' X' Y', X'.length = 1 ∧ X' ++ Y'.reverse = rs true ∧ Rh st i r ρ' ∧ ρ'[5]? = some (some (.int back)) ∧ forS false (fun d ρ st => (evTg (CC 1000 11) 1000 (.name 4) d ρ st).sr fun ρ st => evSs (CC 1000 11) 1000 backB ρ st) (rngL k n) j ρ (Hk st i r a (updB rs true X) (updB us true (U ++ Y)) rs) = .next ρ' (Hk st i r a (updB rs true X') (updB us true (U ++ Y')) rs)
  | 0, k, j, ρ, X, Y, h1, h2, h3, h4, h5 => ⟨ρ, X, Y, h1, h2, h4, h5, rfl⟩
  | n + 1, k, j, ρ, X, Y, h1, h2, h3, h4, h5 => by
    obtain ⟨X1, p, rfl⟩ := last_of (rs := X) (fun e => by rw [e] at h1; simp at h1)
    have h1' : X1.length = n + 1 := by simpa using h1
    obtain ⟨X0, q, rfl⟩ := last_of (rs := X1) (fun e => by rw [e] at h1'; simp at h1')
    have h1'' : X0.length = n := by simpa using h1'
    have hlen : n + 2 + Y.length = (rs true).length := by rw [← h2]; simp; omega
    have hρ := h4.set 4 (some (.int k)) (by decide)
    have g := Hk_get (b := true) (r := r) (a := a) (rs := updB rs true (X0 ++ [q] ++ [p])) (us := updB us true (U ++ Y)) (ws := rs) hi
    rw [updB_same, updB_same] at g
    have c1 := undo_road (F := 1000) (k := 9) (nf_d (r true)) g (by omega) (by rw [List.length_append]; omega)
    rw [Hk_set hi, updB_upd, updB_upd, List.append_assoc U Y] at c1
    have hq : (rs true)[n]? = some q := by
      rw [← h2, ← h1'', List.append_assoc (X0 ++ [q])]
      exact mid_at
    have hx := Hk_ix (b := true) (r := r) (a := a) (rs := updB rs true (X0 ++ [q])) (us := updB us true (U ++ (Y ++ [p]))) (ws := rs) hi
    have e1 := b_ok (C := CC 1000 11) (F := 1000) (ρ := ρ.set 4 (some (.int k))) (j := back) (k := k) (ix := n) hρ.h2 hρ.h3 (by rw [List.getElem?_set_ne (by decide)]; exact h5) (List.getElem?_set_self (by rw [h4.len]; decide)) (fun st' => rfl) g c1 hx (by omega) hq (by omega)
    obtain ⟨ρ', X', Y', f1, f2, f3, f4, f5⟩ := back_ok (back := back) hi hl hU n (k + 1) (j + 1) (ρ.set 4 (some (.int k))) (X0 ++ [q]) (Y ++ [p]) (by simp; omega) (by rw [List.reverse_append, ← h2]; simp) (by omega) hρ (by rw [List.getElem?_set_ne (by decide)]; exact h5)
    refine ⟨ρ', X', Y', f1, f2, f3, f4, ?_⟩
    show (match evSs (CC 1000 11) 1000 backB (ρ.set 4 (some (.int k))) (Hk st i r a (updB rs true (X0 ++ [q] ++ [p])) (updB us true (U ++ Y)) rs) with
      | .next ρ' st' => forS false _ (rngL (k + 1) n) (j + 1) ρ' st'
      | r => r) = _
    rw [e1]
    exact f5
theorem forth_ok (hi : i < st.length) {U : List (List Int)} (hl : (rs true).length ≤ 50) (hU : U.length ≤ 50) : ∀ (n : Nat) (k : Int) (j : Nat) (ρ : Rho) (X Y : List (List Int)), Y.length = n → X ++ Y.reverse = rs true → k + 1 = X.length → Rh st i r ρ →
    ∃ ρ', Rh st i r ρ' ∧ forS false (fun d ρ st => (evTg (CC 1000 11) 1000 (.name 4) d ρ st).sr fun ρ st => evSs (CC 1000 11) 1000 forthB ρ st) (rngL k n) j ρ (Hk st i r a (updB rs true X) (updB us true (U ++ Y)) rs) = .next ρ' (Hk st i r a (updB rs true (rs true)) (updB us true U) rs)
  | 0, k, j, ρ, X, Y, h1, h2, h3, h4 => by
    have hY := List.eq_nil_of_length_eq_zero h1
    subst hY
    rw [List.reverse_nil, List.append_nil] at h2
    subst h2
    exact ⟨ρ, h4, by rw [List.append_nil]; rfl⟩
  | n + 1, k, j, ρ, X, Y, h1, h2, h3, h4 => by
    obtain ⟨Y0, p, rfl⟩ := last_of (rs := Y) (fun e => by rw [e] at h1; simp at h1)
    have h1' : Y0.length = n := by simpa using h1
    have hlen : X.length + 1 + n = (rs true).length := by rw [← h2]; simp; omega
    have hρ := h4.set 4 (some (.int k)) (by decide)
    have g := Hk_get (b := true) (r := r) (a := a) (rs := updB rs true X) (us := updB us true (U ++ (Y0 ++ [p]))) (ws := rs) hi
    rw [updB_same, updB_same, ← List.append_assoc] at g
    have c1 := redo_road (F := 1000) (k := 9) g (by omega) (by rw [List.length_append]; omega)
    rw [← List.append_assoc] 
    rw [Hk_set hi, updB_upd, updB_upd] at c1
    have hq : (rs true)[X.length]? = some p := by
      rw [← h2, List.reverse_append, ← List.append_assoc]
      exact mid_at
    have hx := Hk_ix (b := true) (r := r) (a := a) (rs := updB rs true (X ++ [p])) (us := updB us true (U ++ Y0)) (ws := rs) hi
    have e1 := f_ok (C := CC 1000 11) (F := 1000) (ρ := ρ.set 4 (some (.int k))) (k := k) (ix := X.length) hρ.h2 hρ.h3 (List.getElem?_set_self (by rw [h4.len]; decide)) (fun st' => rfl) g c1 hx h3 hq (by omega)
    obtain ⟨ρ', f3, f5⟩ := forth_ok hi hl hU n (k + 1) (j + 1) (ρ.set 4 (some (.int k))) (X ++ [p]) Y0 h1' (by rw [← h2, List.reverse_append]; simp) (by simp; omega) hρ
    refine ⟨ρ', f3, ?_⟩
    show (match evSs (CC 1000 11) 1000 forthB (ρ.set 4 (some (.int k))) (Hk st i r a (updB rs true X) (updB us true (U ++ Y0 ++ [p])) rs) with
      | .next ρ' st' => forS false _ (rngL (k + 1) n) (j + 1) ρ' st'
      | r => r) = _
    rw [e1]
    exact f5
end
section
variable {C : Calls} {F : Nat} {st : Hs} {ρ : Rho}
theorem n4_ok {nr : Nat} {rs : List (List Int)} (h3 : ρ[3]? = some (some (.ref nr))) (hx : ixV st (.ref nr) (.int 1) = some (.lst (rowsD rs))) : evS C F (nthS 4 lawB) ρ st = .next (ρ.set 5 (some (.int ((rs.length : Int) - 1)))) st := by
  have e1 := fun st : Hs => len_rows (R := rs) (st := st)
  unfold lawB f_law nthS headS forB
  simp [nthS, evS, evE, evEs, evTg, Res.bind, Res.sr, ok1, ixK, Kst.d, setI, dr_int, h3, hx, e1, sub_int]
theorem it_back {back : Int} {k : Nat} (h5 : ρ[5]? = some (some (.int back))) (hk : back = k) (hb : k ≤ 1000) : evIt C F (.rng1 (.v 5)) ρ st = .ok (.st false (rngL 0 k)) st := by
  subst hk
  simp [evIt, evE, Res.bind, h5]
  omega
theorem n7_ok {n0 n1 nr : Nat} {p : List Int} {rs : List (List Int)} {R : D} {w u : List D} (h2 : ρ[2]? = some (some (.lst [.ref n0, .ref n1]))) (h3 : ρ[3]? = some (some (.ref nr))) (q1 : insOf st (.ref n0) = some ("Road" : Str)) (q2 : eqOk "Road" st (.ref n1) = true) (c1 : C 118 [.ref n0, .ref n1] st = .ok (.bl false) st) (h : st[n1]? = some (roadO R w u)) (c2 : C 112 [.ref n1] st = .ok (.tup (dts p)) st) (hx : ixV st (.ref nr) (.int 1) = some (.lst (rowsD (rs ++ [p])))) (hl : rs.length ≤ 100) : evS C F (nthS 7 lawB) ρ st = .next ρ st := by
  have e3 := fun st : Hs => ix_last (st := st) (rs := rs) (p := p) (by omega)
  have e4 := tup_ne (p := p)
  have i0 : ∀ st : Hs, ixV st (.lst [.ref n0, .ref n1]) (.int 0) = some (.ref n0) := fun st => rfl
  have i1 : ∀ st : Hs, ixV st (.lst [.ref n0, .ref n1]) (.int 1) = some (.ref n1) := fun st => rfl
  generalize rowsD (rs ++ [p]) = w1 at *
  unfold lawB f_law nthS headS forB
  simp [nthS, evS, evSs, evE, evEs, evB, Res.bind, Res.sr, ok1, ixK, Kst.d, dr_tup, h2, h3, i0, i1, q1, q2, c1, h, lk_places, c2, hx, e3, e4]
end
theorem rho15 {ρ : Rho} (h : ρ.length = 15) : ∃ x0 x1 x2 x3 x4 x5 x6 x7 x8 x9 x10 x11 x12 x13 x14, ρ = [x0, x1, x2, x3, x4, x5, x6, x7, x8, x9, x10, x11, x12, x13, x14] := by
  match ρ, h with
  | [_, _, _, _, _, _, _, _, _, _, _, _, _, _, _], _ => exact ⟨_, _, _, _, _, _, _, _, _, _, _, _, _, _, _, rfl⟩
theorem round {L : Nat} {st : Hs} {i : Nat} {a : Int × Int} {ρ : Rho} (hs : nfH st = true) (hL : L ≤ st.length) (hi : i < L) (ha : st[i]? = some (O.lst [.int a.1, .int a.2])) (hρ : ρ.length = 15) (h1 : ρ[1]? = some (some (.ref i))) :
    ∃ ρ' st', ρ'.length = 15 ∧ nfH st' = true ∧ L ≤ st'.length ∧ (∀ j, j < L → j ≠ i → st'[j]? = st[j]?) ∧ evSs (CC 1000 11) 1000 lawB ρ st = .next ρ' st' := by
  obtain ⟨x0, x1, x2, x3, x4, x5, x6, x7, x8, x9, x10, x11, x12, x13, x14, rfl⟩ := rho15 hρ
  simp only [List.getElem?_cons_succ, List.getElem?_cons_zero, Option.some.injEq] at h1
  subst h1
  have hi' : i < st.length := by omega
  suffices hh : ∃ ρ' st', ρ'.length = 15 ∧ nfH st' = true ∧ L ≤ st'.length ∧ (∀ j, j < L → j ≠ i → st'[j]? = st[j]?) ∧ evSs (CC 1000 11) 1000 lawB [x0, some (.ref i), x2, x3, x4, x5, x6, x7, x8, x9, x10, x11, x12, x13, x14] (put i a st) = .next ρ' st' by
    rw [put_self ha] at hh
    exact hh
  obtain ⟨r0, a1, hr0, c1⟩ := rule_drawnP (F := 1000) (n := 7) (m := 2) (.inl rfl) a hi' hs
  obtain ⟨r1, a2, hr1, c2⟩ := rule_drawnP (F := 1000) (n := 7) (m := 3) (.inr rfl) a1 hi' hs
  obtain ⟨f0, a3, hf0, hp0, c3⟩ := places_drawnP (F := 1000) (n := 8) (far := 9) (m := 2) (by omega) a2 hi' (by decide) (by decide)
  obtain ⟨f1, a4, hf1, hp1, c4⟩ := places_drawnP (F := 1000) (n := 8) (far := 9) (m := 3) (by omega) a3 hi' (by decide) (by decide)
  have c1 : CC 1000 11 26 [.ref i, .int 2] (put i a st) = .ok r0.d (put i a1 st) := c1
  have c2 : CC 1000 11 26 [.ref i, .int 3] (put i a1 st) = .ok r1.d (put i a2 st) := c2
  have c3 : CC 1000 11 27 [.ref i, .int 2, .int 9] (put i a2 st) = .ok (.tup (dts f0)) (put i a3 st) := c3
  have c4 : CC 1000 11 27 [.ref i, .int 3, .int 9] (put i a3 st) = .ok (.tup (dts f1)) (put i a4 st) := c4
  have ho0 : PlOk f0 := fun x hx => by have := hp0 x hx; omega
  have ho1 : PlOk f1 := fun x hx => by have := hp1 x hx; omega
  have hs4 : nfH (put i a4 st) = true := nfH_put hs
  have i0 : CC 1000 11 111 [.ref (put i a4 st).length, .int 2, r0.d, .tup (dts f0)] (put i a4 st ++ [.ins "Road" []]) = .ok .non (put i a4 st ++ [roadO r0.d (rowsD [f0]) (rowsD [])]) := init_road (F := 1000) (k := 6) (m := 2) (.inl rfl) hf0 hr0.ok ho0 hs4
  have hs5 : nfH (put i a4 st ++ [roadO r0.d (rowsD [f0]) (rowsD [])]) = true := nfH_app hs4 (by unfold nfH; rw [List.all_cons, nf_road (nf_d r0) (nfs_rows _) (nfs_rows _)]; rfl)
  have i1 : CC 1000 11 111 [.ref (put i a4 st ++ [roadO r0.d (rowsD [f0]) (rowsD [])]).length, .int 3, r1.d, .tup (dts f1)] (put i a4 st ++ [roadO r0.d (rowsD [f0]) (rowsD [])] ++ [.ins "Road" []]) = .ok .non (put i a4 st ++ [roadO r0.d (rowsD [f0]) (rowsD [])] ++ [roadO r1.d (rowsD [f1]) (rowsD [])]) := init_road (F := 1000) (k := 6) (m := 3) (.inr rfl) hf1 hr1.ok ho1 hs5
  have l2 : ∀ x y : D, lenOk [x, y] = true := fun x y => rfl
  have k0 : ∀ (x y : D) (st : Hs), ixV st (.lst [x, y]) (.int 0) = some x := fun x y st => rfl
  have k1 : ∀ (x y : D) (st : Hs), ixV st (.lst [x, y]) (.int 1) = some y := fun x y st => rfl
  have n0 : evS (CC 1000 11) 1000 (nthS 0 lawB) [x0, some (.ref i), x2, x3, x4, x5, x6, x7, x8, x9, x10, x11, x12, x13, x14] (put i a st) = .next [x0, some (.ref i), x2, x3, x4, x5, some (.lst [r0.d, r1.d]), some (.lst [.tup (dts f0), .tup (dts f1)]), x8, x9, x10, x11, x12, x13, x14] (put i a4 st) := by
    unfold lawB f_law nthS headS forB
    simp [evS, evE, evEs, evL, evTg, evTgs, Res.bind, Res.sr, Kst.d, Tgs.len, setI, c1, c2, c3, c4, l2]
  generalize hq4 : put i a4 st = st4 at i0 i1 n0 hs4 hs5
  have n1 : evS (CC 1000 11) 1000 (nthS 1 lawB) [x0, some (.ref i), x2, x3, x4, x5, some (.lst [r0.d, r1.d]), some (.lst [.tup (dts f0), .tup (dts f1)]), x8, x9, x10, x11, x12, x13, x14] st4 = .next [x0, some (.ref i), some (.lst [.ref st4.length, .ref (st4.length + 1)]), x3, x4, x5, some (.lst [r0.d, r1.d]), some (.lst [.tup (dts f0), .tup (dts f1)]), x8, x9, x10, x11, x12, x13, x14] (st4 ++ [roadO r0.d (rowsD [f0]) (rowsD [])] ++ [roadO r1.d (rowsD [f1]) (rowsD [])]) := by
    have hlen : (st4 ++ [roadO r0.d (rowsD [f0]) (rowsD [])]).length = st4.length + 1 := by rw [List.length_append]; rfl
    rw [hlen] at i1
    generalize hq5 : st4 ++ [roadO r0.d (rowsD [f0]) (rowsD [])] = st5 at *
    unfold lawB f_law nthS headS forB
    simp [nthS, evS, evE, evEs, evL, evTg, Res.bind, Res.sr, Kst.d, setI, ok1, ixK, k0, k1, i0, i1, hlen, l2]
  have n2 : evS (CC 1000 11) 1000 (nthS 2 lawB) [x0, some (.ref i), some (.lst [.ref st4.length, .ref (st4.length + 1)]), x3, x4, x5, some (.lst [r0.d, r1.d]), some (.lst [.tup (dts f0), .tup (dts f1)]), x8, x9, x10, x11, x12, x13, x14] (st4 ++ [roadO r0.d (rowsD [f0]) (rowsD [])] ++ [roadO r1.d (rowsD [f1]) (rowsD [])]) = .next [x0, some (.ref i), some (.lst [.ref st4.length, .ref (st4.length + 1)]), some (.ref (st4.length + 2)), x4, x5, some (.lst [r0.d, r1.d]), some (.lst [.tup (dts f0), .tup (dts f1)]), x8, x9, x10, x11, x12, x13, x14] (st4 ++ [roadO r0.d (rowsD [f0]) (rowsD [])] ++ [roadO r1.d (rowsD [f1]) (rowsD [])] ++ [O.lst [.lst (rowsD [f0]), .lst (rowsD [f1])]]) := by
    have hlen : (st4 ++ [roadO r0.d (rowsD [f0]) (rowsD [])] ++ [roadO r1.d (rowsD [f1]) (rowsD [])]).length = st4.length + 2 := by rw [List.length_append, List.length_append]; rfl
    generalize hq5 : st4 ++ [roadO r0.d (rowsD [f0]) (rowsD [])] ++ [roadO r1.d (rowsD [f1]) (rowsD [])] = st5 at *
    unfold lawB f_law nthS headS forB
    simp [nthS, evS, evE, evEs, evL, evTg, Res.bind, Res.sr, Kst.d, setI, ok1, ixK, k0, k1, hlen, l2, lenOk_one]
    exact ⟨rfl, rfl⟩
  let r : Bool → Ru := fun b => if b then r1 else r0
  let f : Rws := fun b => if b then [f1] else [f0]
  let e : Rws := fun _ => []
  have hr : ∀ b, (r b).Ok (mB b) := fun b => by
    cases b
    · exact hr0.ok
    · exact hr1.ok
  have hH : st4 ++ [roadO r0.d (rowsD [f0]) (rowsD [])] ++ [roadO r1.d (rowsD [f1]) (rowsD [])] ++ [O.lst [.lst (rowsD [f0]), .lst (rowsD [f1])]] = Hk st i r a4 f e f := by
    rw [← hq4]
    unfold Hk
    rw [← put_app hi', List.append_assoc, List.append_assoc]
    rfl
  have hl4 : st4.length = st.length := by rw [← hq4, put_len]
  rw [hH] at n2
  rw [hl4] at n1 n2
  have hR : Rh st i r [x0, some (.ref i), some (.lst [.ref st.length, .ref (st.length + 1)]), some (.ref (st.length + 2)), x4, x5, some (.lst [r0.d, r1.d]), some (.lst [.tup (dts f0), .tup (dts f1)]), x8, x9, x10, x11, x12, x13, x14] := ⟨rfl, rfl, rfl, rfl, rfl⟩
  have G0 : ∀ b, Gd (mB b) (f b) (e b) 1 := fun b => by
    cases b
    · exact ⟨by simp [f], by simp [f, e], fun p hp => by simp [f] at hp; rw [hp]; exact ⟨hf0, ho0⟩, by simp [e]⟩
    · exact ⟨by simp [f], by simp [f, e], fun p hp => by simp [f] at hp; rw [hp]; exact ⟨hf1, ho1⟩, by simp [e]⟩
  obtain ⟨ρ3, a5, rs, us, G, hR3, e3⟩ := turns_ok hs hi' hr [.int 0, .int 1, .int 2, .int 3, .int 4, .int 5, .int 6, .int 7] 0 _ a4 f e 1 (by decide) G0 hR
  have n3 : evS (CC 1000 11) 1000 (nthS 3 lawB) [x0, some (.ref i), some (.lst [.ref st.length, .ref (st.length + 1)]), some (.ref (st.length + 2)), x4, x5, some (.lst [r0.d, r1.d]), some (.lst [.tup (dts f0), .tup (dts f1)]), x8, x9, x10, x11, x12, x13, x14] (Hk st i r a4 f e f) = .next ρ3 (Hk st i r a5 rs us rs) := (for_at (by rfl)).trans e3
  have hx := Hk_ix (b := true) (r := r) (a := a5) (rs := rs) (us := us) (ws := rs) hi'
  have n4 := n4_ok (C := CC 1000 11) (F := 1000) hR3.h3 hx
  have hln := (G true).len
  obtain ⟨R0, p, hrs⟩ := last_of (G true).ne
  have hb : (((rs true).length : Int) - 1) = R0.length := by rw [hrs]; simp
  rw [hb] at n4
  have hR4 := hR3.set 5 (some (.int (R0.length : Int))) (by decide)
  have h54 : (ρ3.set 5 (some (.int (R0.length : Int))))[5]? = some (some (.int (R0.length : Int))) := List.getElem?_set_self (by rw [hR3.len]; decide)
  have hRl : R0.length ≤ 50 := by rw [hrs] at hln; simp at hln; omega
  obtain ⟨ρ5, X, Y, hX, hXY, hR5, h55, e5⟩ := back_ok (r := r) (a := a5) (rs := rs) (us := us) (U := us true) hi' (by omega) (by omega) R0.length 0 0 _ (rs true) [] (by rw [hrs]; simp) (by simp) (by omega) hR4 h54
  have n5 : evS (CC 1000 11) 1000 (nthS 5 lawB) (ρ3.set 5 (some (.int (R0.length : Int)))) (Hk st i r a5 rs us rs) = .next ρ5 (Hk st i r a5 (updB rs true X) (updB us true (us true ++ Y)) rs) := by
    refine (for_at (it_back h54 rfl (by omega))).trans ?_
    rw [List.append_nil, updB_id, updB_id] at e5
    exact e5
  have hYl : Y.length = R0.length := by
    have := congrArg List.length hXY
    rw [hrs] at this
    simp at this
    omega
  obtain ⟨ρ6, hR6, e6⟩ := forth_ok (r := r) (a := a5) (rs := rs) (us := us) (U := us true) hi' (by omega) (by omega) R0.length 0 0 ρ5 X Y hYl hXY (by omega) hR5
  have n6 : evS (CC 1000 11) 1000 (nthS 6 lawB) ρ5 (Hk st i r a5 (updB rs true X) (updB us true (us true ++ Y)) rs) = .next ρ6 (Hk st i r a5 rs us rs) := by
    refine (for_at (it_back h55 rfl (by omega))).trans ?_
    rw [updB_id, updB_id] at e6
    exact e6
  have g0 := Hk_get (b := false) (r := r) (a := a5) (rs := rs) (us := us) (ws := rs) hi'
  have g1 := Hk_get (b := true) (r := r) (a := a5) (rs := rs) (us := us) (ws := rs) hi'
  have hne : eqDs (rowsD (rs false)) (rowsD (rs true)) = false := by
    have hq0 : ∃ p t, rs false = p :: t := List.exists_cons_of_ne_nil (G false).ne
    have hq1 : ∃ p t, rs true = p :: t := List.exists_cons_of_ne_nil (G true).ne
    obtain ⟨p0, t0, e0⟩ := hq0
    obtain ⟨p1, t1, e1⟩ := hq1
    have l0 := ((G false).ok p0 (by rw [e0]; simp)).1
    have l1 := ((G true).ok p1 (by rw [e1]; simp)).1
    rw [e0, e1]
    simp only [rowsD, List.map_cons, eqDs, eqD]
    rw [eqDs_len (dts p0) (dts p1) (by rw [dts_len, dts_len, l0, l1]; decide)]
    rfl
  have c5 : CC 1000 11 118 [.ref (nB st false), .ref (nB st true)] (Hk st i r a5 rs us rs) = .ok (.bl false) (Hk st i r a5 rs us rs) := by
    rw [eq_road (k := 10) g0 g1 (sh_d _) (sh_d _) (sh_rows 58 _) (sh_rows 58 _) (dr_d _ _) (dr_d _ _), hne, Bool.and_false]
  rw [hrs] at hx g1
  have n7 := n7_ok (C := CC 1000 11) (F := 1000) hR6.h2 hR6.h3 (is_lenO g0) (decide_eq_true (is_lenO g1)) c5 g1 (places_road (k := 10) g1 (by omega)) hx (by omega)
  refine ⟨ρ6, Hk st i r a5 rs us rs, hR6.len, Hk_nf hs, ?_, ?_, (ss_nx n0).trans ((ss_nx (by rw [← hl4] at n1 ⊢; exact n1)).trans ((ss_nx n2).trans ((ss_nx n3).trans ((ss_nx n4).trans ((ss_nx n5).trans ((ss_nx n6).trans ((ss_nx n7).trans rfl)))))))⟩
  · rw [Hk_len]
    omega
  · intro j hj hne
    unfold Hk
    rw [put_ne (fun e => hne e.symm), List.getElem?_append_left (by omega)]
theorem law_true : ∀ ns : List Int, ns.length ≤ 63 → saysTrue (callN fs 1000 12 28 [.kl (ns.map .int)] []) := by
  intro ns hn
  have h1 : callN fs 1000 12 28 [.kl (ns.map .int)] [] = runFn (callN fs 1000 11) 1000 f_law [.kl (ns.map .int)] [] := callN_some rfl
  have h2 : runFn (callN fs 1000 11) 1000 f_law [.kl (ns.map .int)] [] = runFn (CC 1000 11) 1000 f_law [.kl (ns.map .int)] [] := by
    unfold runFn
    rw [agSs (C := callN fs 1000 11) (C' := CC 1000 11) (p := fun j => shared.contains j) (fun j hj => toU hj) f_law.body (by decide +kernel)]
  rw [h1, h2, law_of (M := 4) (f := f_law) (b := lawB) (by decide) ⟨9, rfl⟩ hn ⟨rfl, rfl, by decide⟩ rfl fun L _ hL st i a ρ hs hL2 hi ha hρ h1 => round hs hL2 hi ha hρ h1]
  trivial
end K12

/-! Rf: isinstance of the exception that is handled; the facts of the exceptions. -/
namespace Rf
open PySem PySem.Spec PyProof.Rows L2
def excB (K : PySem.W.Frag) (c : Str) : Bool :=
  He.eqO (PySem.W.findIn K (.ref (He.ga K c)) "__getattribute__") (some (some (.builtin "BaseException.__getattribute__"))) && (He.eqO (PySem.W.findIn K (.ref (He.ga K c)) "__getattr__") (some none) &&
  (decide (PySem.W.subIn K (.ref (He.ga K c)) (.type "BaseException") = some true) && (PySem.W.hasDictIn K (He.ga K c) && (He.eqO (PySem.W.findIn K (.ref (He.ga K c)) "__class__") (some (some (.builtin "object.__class__"))) &&
  (He.eqO (PySem.W.specialIn K (.builtin "object.__class__") "__get__") (some (some (.builtin "getset_descriptor.__get__"))) && (decide (PySem.W.takesIn K (.builtin "object.__class__") = some true) && decide (PySem.W.mroIn K (He.ga K c) (.type "object") = some true)))))))
theorem excB_ok {K : PySem.W.Frag} {c : Str} (h : excB K c = true) : ExcC K (He.ga K c) := by
  obtain ⟨h1, h⟩ := bnd h
  obtain ⟨h2, h⟩ := bnd h
  obtain ⟨h3, h⟩ := bnd h
  obtain ⟨h4, h⟩ := bnd h
  obtain ⟨h5, h⟩ := bnd h
  obtain ⟨h6, h⟩ := bnd h
  obtain ⟨h7, h8⟩ := bnd h
  exact ⟨He.eqO_ok h1, He.eqO_ok h2, of_decide_eq_true h3, h4, He.eqO_ok h5, He.eqO_ok h6, of_decide_eq_true h7, of_decide_eq_true h8⟩
def kitB (K : PySem.W.Frag) : Bool := told7.all fun c => excB K c && (decide (PySem.W.kitOne K (.ref (He.ga K c)) (.type "ValueError") = some true) && told7.all fun c2 => decide (PySem.W.kitOne K (.ref (He.ga K c)) (.ref (He.ga K c2)) = some (decide (c = c2))))
section
variable {X : Cx} {a D : Addr} {oe : Obj}
theorem call_isH (hp : (a, oe) ∈ X.pn) (C : ExcC X.K D) (hz : Zc (.ref D) none oe) (hf : ∃ vs, oe.data = .fields vs) : CallR X (.builtin "isinstance") (rIsE X.K D a) := by
  intro pins s σ H xs us Q I r h
  obtain ⟨c, cv, b, rfl, hcv, e, q⟩ := h
  cases r with
  | cons rx rr =>
    cases rr with
    | cons rt rr =>
      cases rr
      cases rx
      have ec := hcv _ rt
      subst ec
      obtain ⟨hget, _⟩ := I.pin (a, oe) (List.mem_append.mpr (.inl hp))
      obtain ⟨vs, hv⟩ := hf
      have J : PySem.W.InstAt s.heap a oe D none := by
        obtain ⟨oc, od, oda, osl⟩ := oe
        obtain ⟨h1, h2⟩ := hz
        dsimp only at h1 h2 hv
        subst h1 h2 hv
        exact ⟨hget, rfl, rfl, trivial⟩
      exact PySem.W.kia_one (PySem.W.handS_kitx_exc C.hg C.hk C.hs C.hd C.ha C.hn C.ht C.hm) I.kIn J e (fun z => nomatch z) fun tk => ⟨.bl b, H, I.kept (t' := tk) fun _ _ z => z, rfl, q⟩
/-- isinstance(e, C): e in slot 0 -/
def tIs (a : Addr) (b : Bool) : TE := fun σ H Q => σ[0]? = some (some (.ref a)) ∧ Q (.bl b) H
theorem pe_isE {cn e : Str} {C2 : Addr} {b : Bool} {p1 p2 p3 p4 : Pos} (hp : (a, oe) ∈ X.pn) (C : ExcC X.K D) (hz : Zc (.ref D) none oe) (hf : ∃ vs, oe.data = .fields vs) (hg : Gl X "isinstance") (hm : X.mg "isinstance" = none) (he : X.N[0]? = some e) (hv : Vis X.env.scope e)
    (hc : Gl X cn) (hcm : X.mg cn = some (.ref C2)) (hk : PySem.W.kitOne X.K (.ref D) (.ref C2) = some b) (hd : (cn == ("__debug__" : Str)) = false) (hd2 : (e == ("__debug__" : Str)) = false) (hd3 : (e == ("__classdict__" : Str)) = false) : PE X (.Call (.Name "isinstance" p1) [.Name e p2, .Name cn p3] [] p4) (tIs a b) := by
  refine PE.weak (pe_callB (call_isH hp C hz hf) hg hm (by decide +kernel) (pa_cons (pe_var (i := 0) he hv hd2 hd3) (pa_cons (pe_glob (v := .ref C2) hc hcm rfl hd) pa_nil))) fun σ H Q h => ?_
  exact ⟨.ref a, h.1, .ref C2, .ref C2, b, rfl, fun u hu => hu, hk, h.2⟩
theorem pe_isV {e : Str} {b : Bool} {p1 p2 p3 p4 : Pos} (hp : (a, oe) ∈ X.pn) (C : ExcC X.K D) (hz : Zc (.ref D) none oe) (hf : ∃ vs, oe.data = .fields vs) (hg : Gl X "isinstance") (hm : X.mg "isinstance" = none) (he : X.N[0]? = some e) (hv : Vis X.env.scope e)
    (hc : Gl X "ValueError") (hcm : X.mg "ValueError" = none) (hk : PySem.W.kitOne X.K (.ref D) (.type "ValueError") = some b) (hd2 : (e == ("__debug__" : Str)) = false) (hd3 : (e == ("__classdict__" : Str)) = false) : PE X (.Call (.Name "isinstance" p1) [.Name e p2, .Name "ValueError" p3] [] p4) (tIs a b) := by
  refine PE.weak (pe_callB (call_isH hp C hz hf) hg hm (by decide +kernel) (pa_cons (pe_var (i := 0) he hv hd2 hd3) (pa_cons (pe_bltn (v := .ty "ValueError") hc hcm (by decide +kernel) rfl) pa_nil))) fun σ H Q h => ?_
  exact ⟨.ref a, h.1, .ty "ValueError", .type "ValueError", b, rfl, fun u hu => hu, hk, h.2⟩
end
end Rf

namespace K12
open PySem PySem.Spec PyProof.Rows L2 Rf
abbrev tmN : List Str := ["e", "flags", "kinds", "flag"]
theorem tmS : FnScope tmN [("e" : Str)] (L2.defScope top_law_term) := ⟨rfl, rfl, rfl, by decide +kernel, rfl, by decide +kernel, by decide +kernel⟩
/-- what the exceptions' classes are asked -/
structure TermK (X : Cx) (c : Str) : Prop where
  ex : ExcC X.K (He.ga X.K c)
  kit : ∀ c2 ∈ told7, PySem.W.kitOne X.K (.ref (He.ga X.K c)) (.ref (He.ga X.K c2)) = some (decide (c = c2))
  val : PySem.W.kitOne X.K (.ref (He.ga X.K c)) (.type "ValueError") = some true
  mg : ∀ c2 ∈ told7, X.mg c2 = some (.ref (He.ga X.K c2))
  isi : X.mg "isinstance" = none
  ve : X.mg "ValueError" = none
  sum : X.mg "sum" = none
  int : X.mg "int" = none
section
variable {X : Cx} {a : Addr} {oe : Obj} {c : Str}
theorem is_at {cn : Str} {p1 p2 p3 p4 : Pos} (hp : (a, oe) ∈ X.pn) (T : TermK X c) (hz : Zc (.ref (He.ga X.K c)) none oe) (hf : ∃ vs, oe.data = .fields vs) (hN : X.N = tmN) (hs : X.env.scope = L2.defScope top_law_term) (hm : cn ∈ told7) (hg : (L2.defScope top_law_term).names.lookup cn = some .globalImplicit) (hd : (cn == ("__debug__" : Str)) = false) :
    PE X (.Call (.Name "isinstance" p1) [.Name "e" p2, .Name cn p3] [] p4) (tIs a (decide (c = cn))) :=
  pe_isE hp T.ex hz hf (by show X.env.scope.names.lookup _ = _; rw [hs]; rfl) T.isi (by rw [hN]; rfl) (by rw [hs]; exact .inl rfl) (by show X.env.scope.names.lookup _ = _; rw [hs]; exact hg) (T.mg cn hm) (T.kit cn hm) hd (by decide) (by decide)
end
theorem keep_new {H H1 : Hp} {p : Addr} {x : HO} (k : ∀ b o, H b = some o → H1 b = some o) (n : H1 p = none) : ∀ b o, H b = some o → (upd H1 p x) b = some o := fun b o h => by
  rw [upd_ne (ne_of_none (k b o h) n)]
  exact k b o h
theorem up {H : Hp} {p q : Addr} {o x : HO} (h : H p = some o) (n : H q = none) : (upd H q x) p = some o := by
  rw [upd_ne (ne_of_none h n)]
  exact h
/-- which exception -/
theorem seven {c : Str} (h : c ∈ told7) : ∃ j : Nat, told7[j]? = some c ∧ (told7.map fun d => decide (c = d))[j]? = some true ∧ (∀ m, m < j → (told7.map fun d => decide (c = d))[m]? = some false) ∧ ((told7.map fun d => decide (c = d)).map fun b => if b then (1 : Int) else 0).sum = 1 := by
  have key : ∀ c ∈ told7, ∃ j ∈ List.range 7, told7[j]? = some c ∧ (told7.map fun d => decide (c = d))[j]? = some true ∧ (∀ m ∈ List.range j, (told7.map fun d => decide (c = d))[m]? = some false) ∧ ((told7.map fun d => decide (c = d)).map fun b => if b then (1 : Int) else 0).sum = 1 := by decide +kernel
  obtain ⟨j, _, h1, h2, h3, h4⟩ := key c h
  exact ⟨j, h1, h2, fun m hm => h3 m (List.mem_range.mpr hm), h4⟩
theorem term_ok {P : Program} {w : World} {K : PySem.W.Frag} {mg : Str → Option Value} {base : Heap} {A : Around} {outer : List Env} {s : Shared} {H : Hp} {f a : Addr} {cdv : Value} {oe : Obj} {c : Str} {Q : VK} {k : Nat}
    (hc : c ∈ told7) (hot : L2H.Hot1 A (a, oe)) (hr : L2H.RoomH k (A.deeper (envOfC "_law_term" (L2.defScope top_law_term) s.heap.objs.size f cdv))) (T : TermK (L2H.cxH C8.CX0 P w K mg base tmN "_law_term" (L2.defScope top_law_term) f cdv A outer s H C8.E0 (a, oe)) c)
    (hz : Zc (.ref (He.ga K c)) none oe) (hf : ∃ vs, oe.data = .fields vs) (hQ : ∀ H' t, (∀ b o, H b = some o → H' b = some o) → H' t = some (.tup [.str "error", .str c]) → Q (.ref t) H') :
    ∃ t, PSs (L2H.cxH C8.CX0 P w K mg base tmN "_law_term" (L2.defScope top_law_term) f cdv A outer s H C8.E0 (a, oe)) (L2.defBody top_law_term) t ∧ t { nx := fun _ H' => Q .non H', rt := Q } (L2.start tmN [.ref a]) H := by
  have hp : (a, oe) ∈ (L2H.cxH C8.CX0 P w K mg base tmN "_law_term" (L2.defScope top_law_term) f cdv A outer s H C8.E0 (a, oe)).pn := by show (a, oe) ∈ [(a, oe)]; simp
  have hotc : L2H.HotC (L2H.cxH C8.CX0 P w K mg base tmN "_law_term" (L2.defScope top_law_term) f cdv A outer s H C8.E0 (a, oe)) := ⟨(a, oe), hot, hp⟩
  have hu : (L2H.cxH C8.CX0 P w K mg base tmN "_law_term" (L2.defScope top_law_term) f cdv A outer s H C8.E0 (a, oe)).A.units + 65 < cLine := by have := hr.un; show (A.deeper _).units + 65 < cLine; omega
  have isE := fun {cn : Str} {p1 p2 p3 p4 : Pos} (hm : cn ∈ told7) (hg : (L2.defScope top_law_term).names.lookup cn = some .globalImplicit) (hd : (cn == ("__debug__" : Str)) = false) =>
    is_at (X := L2H.cxH C8.CX0 P w K mg base tmN "_law_term" (L2.defScope top_law_term) f cdv A outer s H C8.E0 (a, oe)) (cn := cn) (p1 := p1) (p2 := p2) (p3 := p3) (p4 := p4) hp T hz hf rfl rfl hm hg hd
  refine ⟨_, pss_cons (ps_set (i := 1) tmS.nd rfl (Or.inl rfl) (pe_lst (pa_cons (isE (by decide) rfl (by decide)) (pa_cons (isE (by decide) rfl (by decide)) (pa_cons (isE (by decide) rfl (by decide)) pa_nil)))))
    (pss_cons (ps_set (i := 1) tmS.nd rfl (Or.inl rfl) (pe_op op_cat (pv 1) (pe_lst (pa_cons (isE (by decide) rfl (by decide)) (pa_cons (isE (by decide) rfl (by decide)) (pa_cons (isE (by decide) rfl (by decide)) pa_nil))))))
    (pss_cons (ps_set (i := 1) tmS.nd rfl (Or.inl rfl) (pe_op op_cat (pv 1) (pe_lst (pa_cons (isE (by decide) rfl (by decide)) pa_nil))))
    (pss_cons (ps_set (i := 2) tmS.nd rfl (Or.inl rfl) (pe_lst (pa_cons pe_str (pa_cons pe_str (pa_cons pe_str (pa_cons pe_str (pa_cons pe_str (pa_cons pe_str pa_nil))))))))
    (pss_cons (ps_set (i := 2) tmS.nd rfl (Or.inl rfl) (pe_op op_cat (pv 2) (pe_lst (pa_cons pe_str pa_nil))))
    (pss_cons (ps_if (PW.pt (pw_or (pt_cmpR op_ne (pe_callB (cr_sumH hotc) (by rfl) T.sum (by decide +kernel) (pa_cons (pe_lcH (own := [("flag", 3)]) (g := gName 3) hotc tmS.nd (pv 1) (blkOk_by (N := tmN) (sc := L2.defScope top_law_term) (by decide +kernel))
      (fun _ _ _ _ _ => pg_name (i := 3) tmS.nd rfl (Or.inl rfl)) (fun _ _ _ _ _ => pe_callTy call_int1 (by rfl) T.int (by decide +kernel) (pa_cons (pv 3) pa_nil))) pa_nil)) pe_int (nomark _))
      (pw_or1 (pt_not (pt_val (pe_isV hp T.ex hz hf rfl T.isi rfl (.inl rfl) rfl T.ve T.val (by decide) (by decide))))))) (pss_one (ps_ret (pe_tup (pa_cons pe_str (pa_cons pe_str pa_nil))))) pss_nil)
    (pss_one (ps_ret (pe_tup (pa_cons pe_str (pa_cons (pe_ix ix_list (pv 2) (pe_bm PySem.F.plainAttrs_list PySem.F.slot_list_index (by with_unfolding_all rfl) (mt_indexD hu) (pv 1) (pa_cons pe_bl pa_nil)) (fun _ _ => rfl)) pa_nil)))))))))), ?_⟩
  refine ⟨rfl, rfl, rfl, (by show 3 ≤ sizeLine; decide), fun p1 n1 => ?_⟩
  refine ⟨_, rfl, rfl, rfl, rfl, (by show 3 ≤ sizeLine; decide), fun p2 n2 => ?_⟩
  refine ⟨p1, p2, _, _, rfl, rfl, up upd_same n2, upd_same, (by show 3 + 3 ≤ sizeLine; decide), fun p3 n3 => ?_⟩
  refine ⟨_, rfl, rfl, (by show 1 ≤ sizeLine; decide), fun p4 n4 => ?_⟩
  refine ⟨p3, p4, _, _, rfl, rfl, up upd_same n4, upd_same, (by show 6 + 1 ≤ sizeLine; decide), fun p5 n5 => ?_⟩
  refine ⟨(by show 6 ≤ sizeLine; decide), fun p6 n6 => ?_⟩
  refine ⟨_, rfl, (by show 1 ≤ sizeLine; decide), fun p7 n7 => ?_⟩
  refine ⟨p6, p7, _, _, rfl, rfl, up upd_same n7, upd_same, (by show 6 + 1 ≤ sizeLine; decide), fun p8 n8 => ?_⟩
  have k8 := keep_new (x := .lst (told7.map V.str)) (keep_new (keep_new (keep_new (keep_new (keep_new (keep_new (keep_new (fun b o h => h) n1) n2) n3) n4) n5) n6) n7) n8
  obtain ⟨j, j1, j2, j3, j4⟩ := seven hc
  have a5 := up (x := .lst (told7.map V.str)) (up (up (p := p5) upd_same n6) n7) n8
  refine ⟨_, rfl, p5, (told7.map fun d => decide (c = d)).map V.bl, rfl, .inl (.inl a5), fun Dl nD => ⟨fun i H' => (∀ b o, (upd _ p8 (.lst (told7.map V.str))) b = some o → H' b = some o) ∧ H' Dl = some (.lst (((told7.map fun d => decide (c = d)).take i).map fun b => V.int (if b then 1 else 0))), ⟨fun b o h => up h nD, upd_same⟩, fun i H' ⟨w1, w2⟩ => ⟨.inl (.inl (w1 _ _ a5)), fun hi => ?_, fun x hx => ?_⟩⟩⟩
  · have ht : (told7.map fun d => decide (c = d)).take i = told7.map fun d => decide (c = d) := List.take_of_length_le (by simpa using hi)
    rw [ht] at w2
    have w3 : H' Dl = some (.lst (((told7.map fun d => decide (c = d)).map fun b => if b then (1 : Int) else 0).map V.int)) := by rw [w2, List.map_map]; rfl
    refine ⟨Dl, _, rfl, .inl (.inl w3), ?_⟩
    rw [j4]
    refine ⟨rfl, _, rfl, iteNS rfl ⟨rfl, _, rfl, iteF ?_⟩⟩
    have b5 : H' p5 = some (.lst ((told7.map fun d => decide (c = d)).map V.bl)) := w1 _ _ a5
    have b8 := w1 _ _ (upd_same (a := p8))
    have dpb : ∀ bs : List Bool, DpAll K H' (bs.map V.bl) (bs.map PyData.bool) := fun bs => by
      induction bs with
      | nil => exact .nil
      | cons b bs ih => exact .cons (.bl b) ih
    have shb : ∀ bs : List Bool, SeqAt.shaped (.list (bs.map PyData.bool)) = true := fun bs => by
      have e : ∀ bs : List Bool, toPs (bs.map D.bl) = bs.map PyData.bool := fun bs => by rw [toPs_map, List.map_map]; rfl
      have e2 : ∀ bs : List Bool, shDs 1 (bs.map D.bl) = true := fun bs => by
        induction bs with
        | nil => rfl
        | cons b bs ih => simp only [List.map_cons, shDs, shD, ih, Bool.and_self]
      have := shaped_toP (n := 2) (a := .lst (bs.map D.bl)) (by simp only [shD]; exact e2 bs) (by decide)
      rw [toP, e] at this
      exact this
    refine ⟨_, rfl, _, rfl, .inl ⟨rfl, _, .inl (.inl b5)⟩, p5, .bl true, .bool true, (told7.map fun d => decide (c = d)).map PyData.bool, j, .bool true, rfl, rfl, .lst (.inl (.inl b5)) (dpb (told7.map fun d => decide (c = d))), .bl true, shb _, (by decide), (by rw [List.getElem?_map, j2]; rfl), rfl, fun m z' hm hz' => ?_, ?_⟩
    · rw [List.getElem?_map, j3 m hm] at hz'
      cases hz'
      rfl
    · refine ⟨p8, told7.map V.str, (j : Nat), .str c, rfl, rfl, .inl (.inl b8), ?_, ?_⟩
      · refine atI_nat ?_
        rw [List.getElem?_map, j1]
        rfl
      · refine ⟨(by show 2 ≤ sizeLine; decide), fun t nt => ?_⟩
        exact hQ _ t (fun b o h => up (w1 _ _ (k8 b o h)) nt) upd_same
  · rw [List.getElem?_map, Option.map_eq_some_iff] at hx
    obtain ⟨b, hb, rfl⟩ := hx
    refine ⟨rfl, _, rfl, .inr ⟨b, rfl, _, w2, ?_, ?_⟩⟩
    · rw [List.length_map, List.length_take]
      show min i 7 < sizeLine
      have : sizeLine = 16777216 := sizeLine_eq
      omega
    · refine ⟨fun b' o h => ?_, ?_⟩
      · have hne : b' ≠ Dl := ne_of_none h nD
        rw [upd_ne hne]
        exact w1 b' o h
      · rw [upd_same]
        have hi : i < (told7.map fun d => decide (c = d)).length := (List.getElem?_eq_some_iff.mp hb).1
        rw [List.take_succ, hb, List.map_append]
        rfl
abbrev tdN : List Str := ["deed", "e"]
theorem tdS : FnScope tdN [("deed" : Str)] (L2.defScope top_law_told) := ⟨rfl, rfl, rfl, by decide +kernel, rfl, by decide +kernel, by decide +kernel⟩
theorem takes0 {X : Cx} : L2N.Takes X (fun _ _ _ _ => False) := fun _ _ x => by
  obtain ⟨_, _, _, _, _, _, _, _, _, _, _, _, _, _, _, _, z⟩ := x
  exact z.elim
/-- what is known of the names -/
structure ToldN (K : PySem.W.Frag) (mg : Str → Option Value) : Prop where
  term : ∃ fd, FunD K "_law_term" "_law_term" (L2.defArgs top_law_term) (L2.defBody top_law_term) (L2.defScope top_law_term) [] [] (He.fAd K ("_law_term", none)) fd ∧ Binds K fd [("e" : Str)] []
  mgT : mg "_law_term" = some (.ref (He.fAd K ("_law_term", none)))
  mgM : mg "MeetError" = some (.ref (He.ga K "MeetError"))
  exm : ∀ c ∈ told7, PySem.W.exmOne K (.ref (He.ga K c)) (.ref (He.ga K "MeetError")) = some true
  kit : kitB K = true
  mg7 : ∀ c ∈ told7, mg c = some (.ref (He.ga K c))
  isi : mg "isinstance" = none
  ve : mg "ValueError" = none
  sum : mg "sum" = none
  int : mg "int" = none
theorem ToldN.termK {X : Cx} (N : ToldN X.K X.mg) {c : Str} (hc : c ∈ told7) : TermK X c := by
  obtain ⟨h1, h2⟩ := bnd (List.all_eq_true.mp N.kit c hc)
  obtain ⟨h2, h3⟩ := bnd h2
  exact ⟨excB_ok h1, fun c2 h => of_decide_eq_true (List.all_eq_true.mp h3 c2 h), of_decide_eq_true h2, N.mg7, N.isi, N.ve, N.sum, N.int⟩
theorem pe_term {X : Cx} {a : Addr} {oe : Obj} {c : Str} {p1 p2 p3 : Pos} (N : ToldN X.K X.mg) (hc : c ∈ told7) (hp : (a, oe) ∈ X.pn) (hh : X.A.handled = some (.ref a)) (hz : L2N.Zn (.ref (He.ga X.K c)) none oe) (hf : ∃ vs, oe.data = .fields vs) (hr : L2H.RoomH 2 X.A)
    (hN : X.N[1]? = some ("e" : Str)) (hv : Vis X.env.scope "e") (hg : Gl X "_law_term") :
    PE X (.Call (.Name "_law_term" p1) [.Name "e" p2] [] p3) (fun σ H Q => σ[1]? = some (some (.ref a)) ∧ ∀ H'' t, (∀ b o, H b = some o → H'' b = some o) → H'' t = some (.tup [.str "error", .str c]) → Q (.ref t) H'') := by
  refine ⟨fun pins s σ H Q I h => ?_⟩
  obtain ⟨hs, hq⟩ := h
  obtain ⟨fd, F0, hb⟩ := N.term
  obtain ⟨oc, od, dV, kV, doc, pm, an, cdv, ct, osl, rfl, lk, hcd, _, _⟩ := F0.ex
  have ha : PA X [.Name "e" p2] (tCons (tVar 1) tNil) := pa_cons (pe_var (i := 1) hN hv (by decide) (by decide)) pa_nil
  refine wpAny_Call_Name_kw (ld_glob I hg N.mgT ?_ (by decide))
  refine PySem.W.callWith_K (h₀ := X.base) I.ok.mod.kin F0.kp (thn (ha.run p3 pins s σ H (fun vs H1 => vs = [V.ref a] ∧ H = H1) I ⟨_, hs, rfl, rfl⟩) fun us s1 hh' => ?_) (by rfl) (by rfl)
  obtain ⟨vs, H1, I1, r1, ev, eH⟩ := hh'
  subst ev
  rw [← eH] at I1
  refine ⟨I1.kIn, ?_⟩
  obtain ⟨u, rfl, ru⟩ := r1.one
  cases ru
  have P1 := I1.pin (a, oe) (List.mem_append_left _ hp)
  have hpin : L2H.PinOk X.stack H s1 (a, oe) := ⟨P1.1, P1.2.1, fun hm => (List.mem_cons.mp (I1.stkSub a hm)).elim P1.2.2.1 P1.2.2.2.1, P1.2.2.2.2⟩
  obtain ⟨fvs, hfv⟩ := hf
  have hot : L2H.Hot1 X.A (a, oe) := ⟨hh, fvs, hfv, hz.2.2 fvs hfv⟩
  have b := hb s1 [.ref a] I1.kIn rfl
  rw [List.append_nil] at b
  have rc : codeAny (model X.prog X.w) X.A (.call (.ref (He.fAd X.K ("_law_term", none))) ⟨[.ref a], []⟩) (CR C8.CX0 X.stack X.prog X.w H s1 Q C8.E0) s1 := by
    refine run_hot (N := tmN) (ps := [("e" : Str)]) (us := [.ref a]) (vs := [.ref a]) (k := 1) lk hcd tmS hr hpin I1.env0 b (.cons rfl .nil) rfl fun hr' => ?_
    have tk := ToldN.termK N hc
    exact term_ok hc hot hr' ⟨tk.ex, tk.kit, tk.val, tk.mg, tk.isi, tk.ve, tk.sum, tk.int⟩ hz.zc ⟨fvs, hfv⟩ hq
  refine wpAny_call (codeAny_mono rc fun r s2 hq => ?_)
  cases r with
  | error e => exact (show False from hq).elim
  | ok fl =>
    cases fl with
    | ret u => exact I1.after hq
    | next => exact False.elim hq
    | brk => exact False.elim hq
    | cont => exact False.elim hq
theorem told_ok {X : Cx} {g : Addr} {cdg : Value} {q : Str} (N : ToldN X.K X.mg) : Gives X tdN "_law_told" (L2.defScope top_law_told) g cdg (L2.defBody top_law_told) "deed" q (TTell X.K) := by
  intro f c' s H Q tl act hc h hr
  refine ⟨_, pss_one (L2N.ps_try_as (X := (cxOf C8.CX0 X.prog X.w X.K X.mg X.base tdN "_law_told" (L2.defScope top_law_told) g cdg X.A X.stack s H C8.E0).nox) (c := .ref (He.ga X.K "MeetError")) (i := 1)
      (tb := fun W D σ H => ∃ Ech : XK, (∀ cls d (σ' : L2.St) H', σ'.length = tdN.length → Ech cls d H' → W cls d σ' H') ∧ σ[0]? = some (some (.ref f)) ∧ H c' = some (LamX.CodeO c' q) ∧ tl Ech H D.rt)
      (ts := fun a cls d D σ H => ∃ c, c ∈ told7 ∧ cls = .ref (He.ga X.K c) ∧ d = none ∧ σ[1]? = some (some (.ref a)) ∧ ∀ H'' t, (∀ b o, H b = some o → H'' b = some o) → H'' t = some (.tup [.str "error", .str c]) → D.rt (.ref t) H'')
      rfl rfl tdS.nd rfl rfl ⟨rfl, by decide, .inl N.mgM⟩ takes0 (fun W pn xe tk _ => ?_) (fun a oe cls d pn hz hf => ?_)), ?_⟩
  · refine ⟨fun pins s' σ H' D I h' => ?_⟩
    obtain ⟨Ech, hW, h1, h2, h3⟩ := h'
    have hp := fun p1 p2 => act W pn xe Ech p1 p2 tk hW
    exact (pss_one (ps_ret (hp _ _))).run pins s' σ H' D I ⟨h1, h2, h3⟩
  · refine ⟨fun pins s' σ H' D I h' => ?_⟩
    obtain ⟨c, hc7, rfl, rfl, hσ, hq⟩ := h'
    have hr' : L2H.RoomH 2 (((cxOf C8.CX0 X.prog X.w X.K X.mg X.base tdN "_law_told" (L2.defScope top_law_told) g cdg X.A X.stack s H C8.E0).nox).suite a ((a, oe) :: pn)).A := by
      have := L2H.roomH_of (hr.mono (by decide : 2 ≤ 3))
      exact ⟨this.dp, this.un⟩
    exact (pss_one (ps_ret (pe_term (X := ((cxOf C8.CX0 X.prog X.w X.K X.mg X.base tdN "_law_told" (L2.defScope top_law_told) g cdg X.A X.stack s H C8.E0).nox).suite a ((a, oe) :: pn)) N hc7 (by show (a, oe) ∈ (a, oe) :: pn; simp) rfl hz hf hr' rfl (.inl rfl) rfl))).run pins s' σ H' D I ⟨hσ, hq⟩
  · refine ⟨_, fun cls d σ' H' hl hE => ?_, rfl, hc, h⟩
    obtain ⟨rfl, c, hb, rfl, hq⟩ := hE
    have hc7 : c ∈ told7 := List.contains_iff_mem.mp hb
    refine ⟨true, N.exm c hc7, fun _ a ha => ⟨c, hc7, rfl, rfl, ?_, hq⟩, fun z => by cases z⟩
    exact List.getElem?_set_self (by rw [hl]; decide)
end K12

namespace K12
open PySem PySem.Spec PyProof.Rows L2 Rf
theorem chk_all : (defsOf ds).all (chkD G) = true := by decide +kernel
theorem b_divisor : BindOk d_divisor := fun _ _ _ _ _ _ us hl => match us, hl with | [_, _], _ => by kernel_rfl
theorem b_worth : BindOk d_worth := fun _ _ _ _ _ _ us hl => match us, hl with | [_, _], _ => by kernel_rfl
theorem b_is_whole : BindOk d_is_whole := fun _ _ _ _ _ _ us hl => match us, hl with | [_, _, _], _ => by kernel_rfl
theorem b_need_people : BindOk d_need_people := fun _ _ _ _ _ _ us hl => match us, hl with | [_], _ => by kernel_rfl
theorem b_within : BindOk d_within := fun _ _ _ _ _ _ us hl => match us, hl with | [_, _], _ => by kernel_rfl
theorem b_is_sets : BindOk d_is_sets := fun _ _ _ _ _ _ us hl => match us, hl with | [_, _], _ => by kernel_rfl
theorem b_is_shares : BindOk d_is_shares := fun _ _ _ _ _ _ us hl => match us, hl with | [_, _], _ => by kernel_rfl
theorem b_is_rule_for : BindOk d_is_rule_for := fun _ _ _ _ _ _ us hl => match us, hl with | [_, _], _ => by kernel_rfl
theorem b_need_rule : BindOk d_need_rule := fun _ _ _ _ _ _ us hl => match us, hl with | [_, _], _ => by kernel_rfl
theorem b_is_places_for : BindOk d_is_places_for := fun _ _ _ _ _ _ us hl => match us, hl with | [_, _], _ => by kernel_rfl
theorem b_need_places : BindOk d_need_places := fun _ _ _ _ _ _ us hl => match us, hl with | [_, _], _ => by kernel_rfl
theorem b_order_of : BindOk d_order_of := fun _ _ _ _ _ _ us hl => match us, hl with | [_], _ => by kernel_rfl
theorem b_end_of : BindOk d_end_of := fun _ _ _ _ _ _ us hl => match us, hl with | [_], _ => by kernel_rfl
theorem b_shares_of : BindOk d_shares_of := fun _ _ _ _ _ _ us hl => match us, hl with | [_, _], _ => by kernel_rfl
theorem b_lowest : BindOk d_lowest := fun _ _ _ _ _ _ us hl => match us, hl with | [_, _], _ => by kernel_rfl
theorem b_meeting_of : BindOk d_meeting_of := fun _ _ _ _ _ _ us hl => match us, hl with | [_, _], _ => by kernel_rfl
theorem b_Road__init_ : BindOk d_Road__init_ := fun _ _ _ _ _ _ us hl => match us, hl with | [_, _, _, _], _ => by kernel_rfl
theorem b_Road_places : BindOk d_Road_places := fun _ _ _ _ _ _ us hl => match us, hl with | [_], _ => by kernel_rfl
theorem b_Road_meeting : BindOk d_Road_meeting := fun _ _ _ _ _ _ us hl => match us, hl with | [_], _ => by kernel_rfl
theorem b_Road_tell : BindOk d_Road_tell := fun _ _ _ _ _ _ us hl => match us, hl with | [_, _, _], _ => by kernel_rfl
theorem b_Road_undo : BindOk d_Road_undo := fun _ _ _ _ _ _ us hl => match us, hl with | [_], _ => by kernel_rfl
theorem b_Road_redo : BindOk d_Road_redo := fun _ _ _ _ _ _ us hl => match us, hl with | [_], _ => by kernel_rfl
theorem b_Road__len_ : BindOk d_Road__len_ := fun _ _ _ _ _ _ us hl => match us, hl with | [_], _ => by kernel_rfl
theorem b_Road__eq_ : BindOk d_Road__eq_ := fun _ _ _ _ _ _ us hl => match us, hl with | [_, _], _ => by kernel_rfl
theorem b__law_cell : BindOk d__law_cell := fun _ _ _ _ _ _ us hl => match us, hl with | [_, _], _ => by kernel_rfl
theorem b__law_drawn : BindOk d__law_drawn := fun _ _ _ _ _ _ us hl => match us, hl with | [_, _], _ => by kernel_rfl
theorem b__law_roll : BindOk d__law_roll := fun _ _ _ _ _ _ us hl => match us, hl with | [_, _], _ => by kernel_rfl
theorem b__law_rounds : BindOk d__law_rounds := fun _ _ _ _ _ _ us hl => match us, hl with | [_, _], _ => by kernel_rfl
theorem b__law_inside : BindOk d__law_inside := fun _ _ _ _ _ _ us hl => match us, hl with | [_, _], _ => by kernel_rfl
theorem b__law_antichains : BindOk d__law_antichains := fun _ _ _ _ _ _ us hl => match us, hl with | [_], _ => by kernel_rfl
theorem b__law_shares : BindOk d__law_shares := fun _ _ _ _ _ _ us hl => match us, hl with | [_, _, _], _ => by kernel_rfl
theorem b__law_rule : BindOk d__law_rule := fun _ _ _ _ _ _ us hl => match us, hl with | [_, _], _ => by kernel_rfl
theorem b__law_places : BindOk d__law_places := fun _ _ _ _ _ _ us hl => match us, hl with | [_, _, _], _ => by kernel_rfl
theorem b__law_meeting : BindOk d__law_meeting := fun _ _ _ _ _ _ us hl => match us, hl with | [_, _], _ => by kernel_rfl
theorem b__law_fraction : BindOk d__law_fraction := fun _ _ _ _ _ _ us hl => match us, hl with | [_, _], _ => by kernel_rfl
theorem b_law : BindOk d_law := fun _ _ _ _ _ _ us hl => match us, hl with | [_], _ => by kernel_rfl
theorem binds : ∀ d ∈ defsOf ds, BindOk d := by
  intro d hd
  have hd : d ∈ [d_divisor, d_worth, d_is_whole, d_need_people, d_within, d_is_sets, d_is_shares, d_is_rule_for, d_need_rule, d_is_places_for, d_need_places, d_order_of, d_end_of, d_shares_of, d_lowest, d_meeting_of, d__law_cell, d__law_drawn, d__law_roll, d__law_rounds, d__law_inside, d__law_antichains, d__law_shares, d__law_rule, d__law_places, d_law, d__law_meeting, d__law_fraction, d_Road__init_, d_Road_places, d_Road_meeting, d_Road_tell, d_Road_undo, d_Road_redo, d_Road__len_, d_Road__eq_] := hd
  simp only [List.mem_cons, List.not_mem_nil, or_false] at hd
  rcases hd with rfl | rfl | rfl | rfl | rfl | rfl | rfl | rfl | rfl | rfl | rfl | rfl | rfl | rfl | rfl | rfl | rfl | rfl | rfl | rfl | rfl | rfl | rfl | rfl | rfl | rfl | rfl | rfl | rfl | rfl | rfl | rfl | rfl | rfl | rfl | rfl
  · exact b_divisor
  · exact b_worth
  · exact b_is_whole
  · exact b_need_people
  · exact b_within
  · exact b_is_sets
  · exact b_is_shares
  · exact b_is_rule_for
  · exact b_need_rule
  · exact b_is_places_for
  · exact b_need_places
  · exact b_order_of
  · exact b_end_of
  · exact b_shares_of
  · exact b_lowest
  · exact b_meeting_of
  · exact b__law_cell
  · exact b__law_drawn
  · exact b__law_roll
  · exact b__law_rounds
  · exact b__law_inside
  · exact b__law_antichains
  · exact b__law_shares
  · exact b__law_rule
  · exact b__law_places
  · exact b_law
  · exact b__law_meeting
  · exact b__law_fraction
  · exact b_Road__init_
  · exact b_Road_places
  · exact b_Road_meeting
  · exact b_Road_tell
  · exact b_Road_undo
  · exact b_Road_redo
  · exact b_Road__len_
  · exact b_Road__eq_
def fa2 : List He.Fa := [.glo "_law_told", .glo "_law_term", .glo "MeetError", .free "isinstance", .free "ValueError", .free "sum", .free "int"] ++ (told7.map (fun c => .exm c "MeetError" true) ++ told7.map .glo)
def dd2 : List He.DefD := [⟨("_law_told", none), "_law_told", "_law_told", L2.defArgs top_law_told, L2.defBody top_law_told, L2.defScope top_law_told, [], []⟩, ⟨("_law_term", none), "_law_term", "_law_term", L2.defArgs top_law_term, L2.defBody top_law_term, L2.defScope top_law_term, [], []⟩]
def ex : PySem.W.Frag → Bool := kitB
abbrev exA : PySem.W.Frag → Bool := fun K => ex K && (apartB ds K && tabB G K)
abbrev hk : PySem.W.Hook := He.hookX 4 (faOf G ds ++ fa2) (ddOf ds ++ dd2) [] (tfOf ds) exA
def ob (s : PySem.W.SharedT) : He.AlX := He.obsX 4 (faOf G ds ++ fa2) (ddOf ds ++ dd2) [] (tfOf ds) exA (HandSHeadRun.getT s)
theorem ob_eq (s : PySem.W.SharedT) : ob s = hk.obs s.abs := He.obsX_eq (HandSHeadRun.getT_eq s)
def loose : List PySem.Str := (["MeetError", "InvalidPeople", "InvalidRule", "InvalidPlaces", "InvalidKind", "InvalidNumber", "InvalidText", "NothingToUndo", "divisor", "worth", "is_whole", "need_people", "within", "is_sets", "is_shares", "is_rule_for", "need_rule", "is_places_for", "need_places", "order_of", "end_of", "shares_of", "lowest", "meeting_of", "Road", "_law_cell", "_law_drawn", "_law_roll", "_law_rounds", "_law_term", "_law_told", "_law_inside", "_law_antichains", "_law_shares", "_law_rule", "_law_places", "_law_meeting", "_law_fraction", "MOST_PLACE"] : List String).map PySem.Str.ofString
theorem run (w : World) : HandSHeadRun.RunEq R (PySem.W.view R.prog [44]) hk ob 8000 loose w := by
  intro os
  kernel_rfl
theorem toldF {P : Program} {w : World} {K : PySem.W.Frag} {h : Heap} {mg : Str → Option Value} (X : K.In h) (Ns : h.Ns mainGlobals mg) (hx : ex K = true) (hfa : ∀ f ∈ fa2, f.ok K = true) (hdd : ∀ d ∈ dd2, ∃ fd, FunD K d.name d.qual d.params d.body d.scope (d.dvs K) (d.kws K) (He.fAd K d.at_) fd) (base : Heap) : ToldF P w K mg base := by
  have glo : ∀ x, (He.Fa.glo x) ∈ fa2 → mg x = some (.ref (He.ga K x)) := fun x hm => He.glo_ok X Ns (hfa _ hm)
  have fre : ∀ x, (He.Fa.free x) ∈ fa2 → mg x = none := fun x hm => He.free_ok X Ns (hfa _ hm)
  obtain ⟨fdT, FT⟩ := hdd ⟨("_law_told", none), "_law_told", "_law_told", L2.defArgs top_law_told, L2.defBody top_law_told, L2.defScope top_law_told, [], []⟩ (by unfold dd2; simp)
  obtain ⟨fdE, FE⟩ := hdd ⟨("_law_term", none), "_law_term", "_law_term", L2.defArgs top_law_term, L2.defBody top_law_term, L2.defScope top_law_term, [], []⟩ (by unfold dd2; simp)
  have FT : FunD K "_law_told" "_law_told" (L2.defArgs top_law_told) (L2.defBody top_law_told) (L2.defScope top_law_told) [] [] (He.fAd K ("_law_told", none)) fdT := FT
  have FE : FunD K "_law_term" "_law_term" (L2.defArgs top_law_term) (L2.defBody top_law_term) (L2.defScope top_law_term) [] [] (He.fAd K ("_law_term", none)) fdE := FE
  have bT : Binds K fdT [("deed" : Str)] [] := FT.bindsN fun _ _ _ _ _ _ us hl => match us, hl with | [_], _ => by kernel_rfl
  have bE : Binds K fdE [("e" : Str)] [] := FE.bindsN fun _ _ _ _ _ _ us hl => match us, hl with | [_], _ => by kernel_rfl
  have N : ToldN K mg := ⟨⟨fdE, FE, bE⟩, glo _ (by unfold fa2; simp), glo _ (by unfold fa2; simp), fun c hc => He.exm_ok (hfa _ (by unfold fa2; simp only [List.mem_append, List.mem_map]; exact .inr (.inl ⟨c, hc, rfl⟩))), hx,
    fun c hc => glo c (by unfold fa2; simp only [List.mem_append, List.mem_map]; exact .inr (.inr ⟨c, hc, rfl⟩)), fre _ (by unfold fa2; simp), fre _ (by unfold fa2; simp), fre _ (by unfold fa2; simp), fre _ (by unfold fa2; simp)⟩
  obtain ⟨oc, od, dV, kV, doc, pm, an, cdv, ct, osl, rfl, lk, hcd, _, _⟩ := FT.ex
  refine ⟨_, _, _, _, _, _, _, _, _, _, _, _, _, _, tdN, glo _ (by unfold fa2; simp), FT.kp, lk, hcd, bT, tdS, rfl, .inl rfl, fun X h1 h2 h3 h4 h5 q => ?_⟩
  have N2 : ToldN X.K X.mg := by rw [h3, h4]; exact N
  have := told_ok (X := X) (g := He.fAd K ("_law_told", none)) (cdg := cdv) (q := q) N2
  rw [h3] at this
  exact this
end K12
open PySem PySem.W PySem.Calls PyProof.Rows in
theorem PySem.Challenge.cw_meetcones_k12_whole_two_roads_holds : PySem.Challenge.rw_meetcones_k12_whole_two_roads.Holds := by
  w_on; o_law
  refine HandSHeadRun.head_any (r := OpenLaw.row PySem.Challenge.rw_meetcones_k12_whole_two_roads) (q := view (OpenLaw.row PySem.Challenge.rw_meetcones_k12_whole_two_roads).prog [44]) (H := K12.hk) (ob := K12.ob) (M := 8000) (loose := K12.loose) (d := HandSHeadRun.topDef (OpenLaw.row PySem.Challenge.rw_meetcones_k12_whole_two_roads).prog 44) (kwd := []) K12.ob_eq
    (by kernel_rfl) (fun s => by kernel_rfl) K12.run (by kernel_rfl) (by kernel_rfl) (by kernel_rfl) (by rfl) (by first | assumption | decide +kernel) (by decide +kernel) ⟨rfl, rfl, rfl, rfl, rfl, by decide +kernel⟩ ?hw ?hc
  case hw => w_witness2
  case hc =>
    refine LamX.walk_ofTsE (l := PySem.Challenge.rw_meetcones_k12_whole_two_roads) (n := 63) (k := Rf.lev 12) (x := "script") (CX := fun w => L2N.CX (PySem.Challenge.rw_meetcones_k12_whole_two_roads).prog w) rfl (by decide) (by kernel_rfl) ⟨rfl, by decide, by decide⟩ ?F fun w => Rf.CXn_no w
    intro w mg fa h Y N hmg0
    obtain ⟨K, KX, c⟩ := Y
    have hmg : mg (K12.d_law).name = some (.ref fa) := by
      have e : (HandSHeadRun.topDef (OpenLaw.row PySem.Challenge.rw_meetcones_k12_whole_two_roads).prog 44).name = (K12.d_law).name := by kernel_rfl
      rw [← e]
      exact hmg0
    exact ⟨K, KX, Rf.law_end (l := PySem.Challenge.rw_meetcones_k12_whole_two_roads) (w := w) (ex := K12.ex) (fa2 := K12.fa2) (dd2 := K12.dd2) (F := 1000) (n := 12) (i := 28) (d := K12.d_law) KX N c K12.binds rfl K12.chk_all rfl rfl rfl hmg (fun hx _ hfa hdd base _ _ _ => K12.toldF KX N hx hfa hdd base) K12.law_true⟩
